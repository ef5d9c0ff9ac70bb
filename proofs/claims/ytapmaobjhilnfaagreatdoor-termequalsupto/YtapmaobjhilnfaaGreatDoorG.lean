/- A part of the proof. -/
import Derived.Test.YtapmaobjhilnfaaGreatDoorD
set_option linter.all false
namespace Go.Ev.X
section
def val(B:Nat):List Nat->Nat
 | []=>0
 | a::l=>a+B*val B l
def Sm(B:Nat)(l:List Nat):Prop:=∀a∈l,a<B
def Nz(l:List Nat):Prop:=∀(h:l≠[]),l.getLast h≠0
def eA(B:Nat)(l:List Nat):Prop:=Sm B l/\Nz l
def dd:List Nat->List Nat
 | []=>[]
 | a::l=>match dd l with
  | []=>if a=0 then [] else [a]
  | b::m=>a::b::m
section
variable {B:Nat}
theorem Sm.nil:Sm B []:=λa h=>by cases h
theorem Sm.cons{a:Nat}{l:List Nat}(h:a<B)(hl:Sm B l):Sm B (a::l):=λx hx=>by
 cases hx with
 | head=>exact h
 | tail _ hx=>exact hl x hx
theorem Sm.tail{a:Nat}{l:List Nat}(h:Sm B (a::l)):Sm B l:=λx hx=>h x (by simp[hx])
theorem Sm.get{l:List Nat}(h:Sm B l){i:Nat}(hi:i<l.length):l[i]<B:=h _ (fW _)
theorem Sm.take{l:List Nat}(h:Sm B l)(i:Nat):Sm B (l.take i):=λx hx=>h x (wv hx)
theorem Sm.set{l:List Nat}(h:Sm B l){i x:Nat}(hx:x<B):Sm B (l.set i x):=λy hy=>by
 rcases List.mem_or_eq_of_mem_set hy with hy | rfl
 ·exact h y hy
 ·exact hx
theorem Sm.getD{l:List Nat}(h:Sm B l)(hB:0<B)(i:Nat):l.getD i 0<B:=by
 rw[fj];by_cases hi:i<l.length
 ·rw[fO hi];exact h.get hi
 ·rw[xI (by omega)];exact hB
theorem Sm.rep(hB:0<B)(n:Nat):Sm B (List.replicate n 0):=λx hx=>by rw[List.eq_of_mem_replicate hx];exact hB
theorem yG(l m:List Nat):val B (l++m)=val B l+B ^ l.length*val B m:=by
 induction l with
 | nil=>simp[val]
 | cons a l ih=>simp only[xK,val,ih,fH,gI,gl,mE];rw[dP (B ^ l.length) B,iE]
theorem Mn(l:List Nat)(i:Nat):val B l=val B (l.take i)+B ^ (l.take i).length*val B (l.drop i):=by rw[←yG,Bq]
theorem pF{l:List Nat}(h:Sm B l):val B l<B ^ l.length:=by
 induction l with
 | nil=>simp[val]
 | cons a l ih=>
  have h1:=ih h.tail;have h2:=h a (by simp);simp only[val,fH,gI];have:B*(val B l+1)<=B*B ^ l.length:=rh _ h1;rw[gl,lQ]at this;rw[dP (B ^ l.length)];omega
theorem Vr(n:Nat):val B (List.replicate n 0)=0:=by
 induction n with
 | zero=>rfl
 | succ n ih=>simp[DA,val,ih]
theorem Io(l:List Nat){i:Nat}(hi:i<l.length)(x:Nat):val B (l.set i x)+B ^ i*l[i]=val B l+B ^ i*x:=by
 induction l generalizing i with
 | nil=>simp at hi
 | cons a l ih=>
  cases i with
  | zero=>simp[val];omega
  | succ i=>
   have kS:i<l.length:=by simpa using hi
   have h:=ih kS;simp only[Bv,val,zy,gI];have h1:B*(val B (l.set i x)+B ^ i*l[i])=B*(val B l+B ^ i*x):=by rw[h]
   rw[gl,gl]at h1;rw[dP (B ^ i) B,iE,iE];omega
theorem vS(l:List Nat)(i:Nat):val B (l.take (i+1))=val B (l.take i)+B ^ i*l.getD i 0:=by
 by_cases hi:i<l.length
 ·rw[pg hi,yG];simp only[val,ri,kE,kF];rw[xR (by omega),fj,fO hi];rfl
 ·rw[pZ (by omega),pZ (by omega),fj,xI (by omega)];simp
theorem AE(l:List Nat){i:Nat}(hi:i<l.length):val B (l.drop i)=l[i]+B*val B (l.drop (i+1)):=by rw[fC hi,val]
theorem pG(l:List Nat):val B (dd l)=val B l:=by
 induction l with
 | nil=>rfl
 | cons a l ih=>
  simp only[dd];split
  ·rename_i h;rw[h]at ih;split
   ·rename_i ha;simp only[val,←ih,ha];simp[val]
   ·simp only[val,←ih]
  ·rename_i b m h;rw[h]at ih;rw[val,ih];rfl
theorem afe(l:List Nat):∀x∈dd l,x∈l:=by
 induction l with
 | nil=>intro x h;cases h
 | cons a l ih=>
  intro x hx;simp only[dd]at hx;split at hx
  ·split at hx
   ·cases hx
   ·simp at hx;simp[hx]
  ·rename_i b m h;rw[h]at ih;cases hx with
   | head=>simp
   | tail _ hx=>simp[ih x hx]
theorem Vs{l:List Nat}(h:Sm B l):Sm B (dd l):=λx hx=>h x (afe l x hx)
theorem aff(l:List Nat):Nz (dd l):=by
 induction l with
 | nil=>intro h;exact absurd rfl h
 | cons a l ih=>
  rw[dd];cases hs:dd l with
  | nil=>
   simp only;by_cases ha:a=0
   ·simp only[ha,if_true];intro h;exact absurd rfl h
   ·simp only[ha,if_false];intro h;simpa using ha
  | cons b m=>
   rw[hs]at ih;intro h;have:=ih (by simp);show(a::b::m).getLast _≠0;rw[List.getLast_cons (by simp)];exact this
theorem rM{l:List Nat}(h:Sm B l):eA B (dd l):=⟨Vs h,aff l⟩
theorem Vt{l:List Nat}(h:Nz l):dd l=l:=by
 induction l with
 | nil=>rfl
 | cons a l ih=>
  have hl:Nz l:=λaR=>by have:=h (by simp);rw[List.getLast_cons aR]at this;exact this
  rw[dd,ih hl];cases l with
  | nil=>
   have:=h (by simp);simp at this;simp[this]
  | cons b m=>rfl
theorem afg(l:List Nat):dd (l++[0])=dd l:=by
 induction l with
 | nil=>rfl
 | cons a l ih=>rw[xK,dd,ih,dd]
theorem afh(l:List Nat){x:Nat}(hx:x≠0):dd (l++[x])=l++[x]:=Vt λh=>by simpa using hx
theorem eA.nil:eA B []:=⟨Sm.nil,λh=>absurd rfl h⟩
theorem Ip{l:List Nat}(h:Nz l)(hB:0<B)(aR:l≠[]):B ^ (l.length - 1)<=val B l:=by have h1:=h aR;have h2:l=l.dropLast++[l.getLast aR]:=(List.dropLast_concat_getLast aR).symm;rw[h2,yG];simp only[val,kE,kF,oi,List.length_singleton,Nat.add_sub_cancel,List.length_dropLast];have:B ^ (l.length - 1)*1<=B ^ (l.length - 1)*l.getLast aR:=rh _ (by omega);omega
theorem val_zero{l:List Nat}(h:Nz l)(hB:0<B):val B l=0↔l=[]:=by
 constructor
 ·intro hv;by_cases aR:l=[]
  ·exact aR
  ·have:=Ip h hB aR;have:0<B ^ (l.length - 1):=Nat.pow_pos hB;omega
 ·rintro rfl;rfl
theorem pH{l m:List Nat}(hl:Nz l)(hm:Sm B m)(hB:1<B)(h:val B l<=val B m):l.length<=m.length:=by
 by_cases aR:l=[]
 ·simp[aR]
 ·have h1:=Ip (B:=B) hl (by omega) aR;have h2:=pF hm;by_cases hc:l.length<=m.length
  ·exact hc
  ·have:B ^ m.length<=B ^ (l.length - 1):=zA (by omega) (by omega);omega
theorem val_inj{l m:List Nat}(hl:eA B l)(hm:eA B m)(hB:1<B)(h:val B l=val B m):l=m:=by
 have hlen:l.length=m.length:=Nat.le_antisymm (pH hl.2 hm.1 hB (by omega)) (pH hm.2 hl.1 hB (by omega));have:∀(l m:List Nat),l.length=m.length->Sm B l->Sm B m->val B l=val B m->l=m:=by
  intro l
  induction l with
  | nil=>intro m h _ _ _;cases m with | nil=>rfl | cons=>simp at h
  | cons a l ih=>
   intro m h h1 h2 hv;cases m with
   | nil=>simp at h
   | cons b m=>
    simp only[val]at hv;have ha:=h1 a (by simp);have hb:=h2 b (by simp);have e1:a=b:=by have:=congrArg (· % B) hv;simp only[Nat.add_mul_mod_self_left,zC ha,zC hb]at this;exact this
    subst e1;have e2:val B l=val B m:=Nat.eq_of_mul_eq_mul_left (by omega) (Nat.add_left_cancel hv);rw[ih m (by simpa using h) h1.tail h2.tail e2]
 exact this l m hlen hl.1 hm.1 h
def gr(a b:Nat):Int:=if a<b then -1 else if b<a then 1 else 0
theorem Vu{l m:List Nat}(hl:eA B l)(hm:eA B m)(hB:1<B)(aR:l.length≠m.length):gr (val B l) (val B m)=gr l.length m.length:=by
 by_cases h:l.length<m.length
 ·have hc:¬ val B m<=val B l:=λhc=>by have:=pH hm.2 hl.1 hB hc;omega
  simp[gr,h,show val B l<val B m by omega]
 ·have hc:¬ val B l<=val B m:=λhc=>by have:=pH hl.2 hm.1 hB hc;omega
  simp[gr,h,show ¬ val B l<val B m by omega,show val B m<val B l by omega,show m.length<l.length by omega]
theorem Vv{l m:List Nat}(hl:Sm B l)(hm:Sm B m)(hlen:l.length=m.length){i:Nat}(hi:i<l.length)(ha:l.drop (i+1)=m.drop (i+1))(aR:l[i]≠m[i]'(by omega)):
 gr (val B l) (val B m)=gr l[i] (m[i]'(by omega)):=by
 have kS:i<m.length:=by omega
 have e1:=Mn (B:=B) l i;have e2:=Mn (B:=B) m i;rw[AE l hi,ha]at e1;rw[AE m kS]at e2;have t1:=pF (hl.take i);have t2:=pF (hm.take i);have q1:(l.take i).length=i:=by simp;omega
 have q2:(m.take i).length=i:=by simp;omega
 rw[q1]at e1 t1;rw[q2]at e2 t2;generalize val B (List.drop (i+1) m)=X at*;by_cases h:l[i]<m[i]
 ·have:B ^ i*(l[i]+B*X+1)<=B ^ i*(m[i]+B*X):=rh _ (by omega);rw[gl _ _ 1]at this;simp[gr,h,show val B l<val B m by omega]
 ·have hg:m[i]<l[i]:=by omega
  have:B ^ i*(m[i]+B*X+1)<=B ^ i*(l[i]+B*X):=rh _ (by omega);rw[gl _ _ 1]at this;simp[gr,h,hg,show ¬ val B l<val B m by omega,show val B m<val B l by omega]
theorem Vw(a:Nat):gr a a=0:=by simp[gr]
theorem Cs{l:List Nat}(hl:Sm B l)(hB:0<B)(i:Nat):val B l / B ^ i=val B (l.drop i):=by
 by_cases hi:i<=l.length
 ·have e:=Mn (B:=B) l i;have t:=pF (hl.take i);have q:(l.take i).length=i:=by simp;omega
  rw[q]at e t;rw[e,Nat.add_mul_div_left _ _ (Nat.pow_pos hB),Nat.div_eq_of_lt t,iI]
 ·rw[re (by omega),val];have h1:=pF hl;have:B ^ l.length<=B ^ i:=zA hB (by omega);exact Nat.div_eq_of_lt (by omega)
theorem yH(l:List Nat)(i:Nat):val B (l.drop i)=l.getD i 0+B*val B (l.drop (i+1)):=by
 by_cases hi:i<l.length
 ·rw[AE l hi,fj,fO hi];rfl
 ·rw[re (by omega),re (by omega),fj,xI (by omega)];simp[val]
structure Dg(B R b head l2 top next P:Nat):Prop where
 hB:2<=B
 hR:R<B*b
 r1:(head*B+l2)*P<=R
 r2:R<(head*B+l2+1)*P
 b1:(top*B+next)*P<=b
 b2:b<(top*B+next+1)*P
 oY:l2<B
 jj:next<B
 mh:B<=2*top
 hP:0<P
theorem Dg.head{R b head l2 top next P:Nat}(d:Dg B R b head l2 top next P):head<B*(top+1):=by
 obtain⟨hB,hR,r1,r2,b1,b2,oY,jj,mh,hP⟩:=d;have h1:(top*B+next+1)*P<=(B*(top+1))*P:=gX _ (by rw[gl,dP top B];omega);have h2:B*b<B*((B*(top+1))*P):=GQ (by omega) (by omega);have h3:(head*B)*P<=(head*B+l2)*P:=gX _ (by omega);have h4:(head*B)*P<(B*(top+1)*B)*P:=by
  have:B*((B*(top+1))*P)=(B*(top+1)*B)*P:=by rw[←iE,dP B (B*(top+1))]
  omega
 have h5:=Du h4;exact Du h5
theorem Dg.first{R b head l2 top next P:Nat}(d:Dg B R b head l2 top next P):R / b<=head / top/\head / top<=B+1:=by
 have hh:=d.head;obtain⟨hB,hR,r1,r2,b1,b2,oY,jj,mh,hP⟩:=d;have ht:0<top:=by omega
 constructor
 ·rw[Nat.le_div_iff_mul_le ht];have h1:R / b*b<=R:=Nat.div_mul_le_self R b;have h2:R / b*(top*B*P)<=R / b*b:=rh _ (iH (gX _ (by omega)) b1);have h3:(head*B+l2+1)*P<=((head+1)*B)*P:=gX _ (by rw[iJ];omega);have h4:(R / b*top*B)*P<((head+1)*B)*P:=by
   have:R / b*(top*B*P)=(R / b*top*B)*P:=by simp only[iE]
   omega
  have h5:=Du (Du h4);omega
 ·have:head / top<B+2:=by
   rw[Bp ht];have:B*(top+1)<=(B+2)*top:=by rw[gl,iJ];omega
   omega
  omega
theorem Dg.down{R b head l2 top next P bY left:Nat}(d:Dg B R b head l2 top next P)(hg:bY*top+left=head)(hq:R / b<=bY)(hc:B<=bY\/left*B+l2<bY*next):R / b<=bY - 1/\0<bY:=by
 obtain⟨hB,hR,r1,r2,b1,b2,oY,jj,mh,hP⟩:=d;have hb:0<b:=by have:0<(top*B+next)*P:=Nat.mul_pos (by have:0<top*B:=Nat.mul_pos (by omega) (by omega);omega) hP;omega
 have ω:R / b<bY:=by
  cases hc with
  | inl hc=>
   have:R / b<B:=by rw[Bp hb];exact hR
   omega
  | inr hc=>
   rw[Bp hb];have h1:bY*((top*B+next)*P)<=bY*b:=rh _ b1;have h2:(head*B+l2+1)*P<=(bY*(top*B+next))*P:=by
    apply gX;have:bY*(top*B+next)=bY*top*B+bY*next:=by rw[gl,iE]
    rw[this,←hg,iJ];omega
   rw[iE]at h2;omega
 exact⟨Nat.le_sub_one_of_lt ω,Nat.lt_of_le_of_lt (uw _) ω⟩
theorem Dg.done{R b head l2 top next P bY left:Nat}(d:Dg B R b head l2 top next P)(hg:bY*top+left=head)(ω:bY<B)(hc:bY*next<=left*B+l2)(hp:P*B<=b):bY*b<R+b:=by
 obtain⟨hB,hR,r1,r2,b1,b2,oY,jj,mh,hP⟩:=d;by_cases h0:bY=0
 ·subst h0;have:0<P*B:=Nat.mul_pos hP (by omega);omega
 have h1:bY*b<bY*((top*B+next+1)*P):=GQ b2 (by omega);have h2:(bY*(top*B+next))*P<=(head*B+l2)*P:=by
  apply gX;have:bY*(top*B+next)=bY*top*B+bY*next:=by rw[gl,iE]
  rw[this,←hg,iJ];omega
 have h3:bY*((top*B+next+1)*P)=(bY*(top*B+next))*P+bY*P:=by rw[←iE,gl,lQ,iJ]
 have h4:bY*P<=B*P:=gX _ (by omega);rw[dP B P]at h4;rw[h3]at h1;omega
theorem Dg.brk{R b head l2 top next P bY left:Nat}(d:Dg B R b head l2 top next P)(hg:bY*top+left=head)(hl:B<=left):bY<B/\bY*next<=left*B+l2:=by
 have hh:=d.head;obtain⟨hB,hR,r1,r2,b1,b2,oY,jj,mh,hP⟩:=d;have h1:bY*top<B*top:=by rw[gl]at hh;omega
 have h2:=Du h1;refine⟨h2,?_⟩;have h3:bY*next<=B*B:=xQ (by omega) (by omega);have h4:B*B<=left*B:=gX _ hl;omega
theorem Vx{R b g:Nat}(hb:0<b)(h1:g*b<=R)(h2:R<g*b+b):R - g*b=R % b:=by
 have:R / b=g:=by
  rw[Nat.div_eq_iff hb];constructor
  ·omega
  ·omega
 have h3:=xO R b;rw[this,dP]at h3;omega
theorem Mo{x a b:Nat}(B:Nat):(x+B*(a % b)) % b=(x+B*a) % b:=by rw[Nat.add_mod,Nat.mul_mod,Nat.mod_mod,←Nat.mul_mod,←Nat.add_mod]
end
end
end Go.Ev.X
namespace Go.Ev.X
open Go Go.Ev
def gL(c:UInt8):Bool:=decide (48<=c.toNat)&&decide (c.toNat<=57)
def body:S->S
 | []=>[]
 | c::l=>if c.toNat=45 then l else c::l
def isNeg:S->Bool
 | []=>false
 | c::_=>decide (c.toNat=45)
def pV:S->Nat
 | []=>0
 | c::_=>c.toNat
def jl(s:S):Bool:=
 !decide ((body s).length=0)&&(!decide (s=[45,48])&&(!(decide (1<(body s).length)&&decide (pV (body s)=48))&&(body s).all gL))
def gu(s:S):Int:=if jl s then (if 120<(body s).length then 4 else 0) else 1
theorem Fa{s:S}(h:jl s=true):(∀c∈body s,gL c=true)/\body s≠[]:=by simp only[jl,bh,xM,cV,sF]at h;refine⟨h.2.2.2,λe=>h.1 ?_⟩;rw[e];rfl
theorem Mp{s:S}(h:jl s=true):s≠[]:=by intro e;subst e;exact absurd h (by decide)
theorem Ct{s:S}(h:gu s=0):jl s=true/\(body s).length<=120:=by
 unfold gu at h;split at h
 ·rename_i hf;split at h
  ·omega
  ·exact⟨hf,by omega⟩
 ·omega
theorem Fb(s:S):(body s).length<=s.length/\s.length<=(body s).length+1:=by
 cases s with
 | nil=>simp[body]
 | cons c l=>simp only[body];split<;>simp
def oL(n:Nat)(s:S):Nat:=s.foldl (λn c=>10*n+(c.toNat - 48)) n
def dec(s:S):Nat:=oL 0 s
theorem afi(s:S):∀n,oL n s=n*10 ^ s.length+dec s:=by
 induction s with
 | nil=>intro n;simp[oL,dec]
 | cons c l ih=>
  intro n;have e1:=ih (10*n+(c.toNat - 48));have e2:=ih (10*0+(c.toNat - 48));simp only[oL,dec,List.foldl_cons,fH]at*;rw[e1,e2,gI,iJ,kE,iI,dP 10 n,iE,dP 10,mE]
theorem Vy(n:Nat)(s:S)(c:UInt8):oL n (s++[c])=10*oL n s+(c.toNat - 48):=by simp[oL]
theorem Iq(a b:S):dec (a++b)=dec a*10 ^ b.length+dec b:=by
 have:dec (a++b)=oL (dec a) b:=by simp[dec,oL]
 rw[this,afi]
theorem dec_lt{s:S}(h:∀c∈s,gL c=true):dec s<10 ^ s.length:=by
 induction s with
 | nil=>simp[dec,oL]
 | cons c l ih=>
  have e:dec (c::l)=(c.toNat - 48)*10 ^ l.length+dec l:=by have:=Iq [c] l;simpa[dec,oL]using this
  have h1:=ih λx hx=>h x (by simp[hx]);have h2:=h c (by simp);simp only[gL,bh,bA]at h2;have h3:(c.toNat - 48)*10 ^ l.length<=9*10 ^ l.length:=gX _ (by omega);rw[e,fH,gI];omega
def cutAt:S->Option (S×S)
 | []=>none
 | c::l=>if c.toNat=47 then some ([],l) else match cutAt l with
  | some (p,q)=>some (c::p,q)
  | none=>none
def ic(s:S):Bool:=s.any λc=>decide (c.toNat=47)
def lF(s:S):Option (S×S):=
 match cutAt s with
 | some (p,q)=>if ic q then none else some (p,q)
 | none=>none
theorem Mq{s:S}(h:ic s=false):cutAt s=none:=by
 induction s with
 | nil=>rfl
 | cons c l ih=>
  simp only[ic,List.any_cons,Dz,cV]at h;simp only[cutAt,h.1,if_false];rw[ih h.2]
theorem Mr:∀{s:S} {i:Nat} (hi:i<s.length),ic (s.take i)=false->s[i].toNat=47->cutAt s=some (s.take i,s.drop (i+1)):=by
 intro s
 induction s with
 | nil=>intro i hi;simp at hi
 | cons c l ih=>
  intro i hi h1 h2;cases i with
  | zero=>simp at h2;simp[cutAt,h2]
  | succ i=>
   simp only[sD,ic,List.any_cons,Dz,cV]at h1;simp only[zy]at h2;simp only[cutAt,h1.1,if_false];rw[ih (by simpa using hi) h1.2 h2];simp
theorem afj{s:S}{i:Nat}(hi:i<s.length):ic (s.take (i+1))=(ic (s.take i)||decide (s[i].toNat=47)):=by unfold ic;rw[pg hi,List.any_append];simp only[List.any_cons,List.any_nil,Bool.or_false]
theorem Vz(a b:S):ic (a++b)=(ic a||ic b):=by simp[ic]
theorem VA{s p q:S}(h:cutAt s=some (p,q)):p.length+q.length+1=s.length:=by
 induction s generalizing p q with
 | nil=>cases h
 | cons c l ih=>
  simp only[cutAt]at h;split at h
  ·cases h;simp
  ·split at h
   ·rename_i p' q' h';cases h;have:=ih h';simp;omega
   ·cases h
theorem afk{s p q:S}(h:lF s=some (p,q)):p.length<s.length/\q.length<s.length:=by
 unfold lF at h;split at h
 ·rename_i p' q' h';split at h
  ·cases h
  ·cases h;have:=VA h';omega
 ·cases h
def nM(s:S):Int:=
 match lF s with
 | none=>1
 | some (p,q)=>if gu p≠0 then gu p else if gu q≠0 then gu q else
  if isNeg q=true\/dec (body q)=0\/Nat.gcd (dec (body p)) (dec (body q))≠1 then 1 else 0
theorem Ms{s:S}(h:jl s=true):dec (body s)=0↔s=[48]:=by
 constructor
 ·intro hd;obtain⟨h1,h2⟩:=Fa h;simp only[jl,bh,xM,cV,Bool.and_eq_false_imp,bA]at h;obtain⟨_,g2,g3,_⟩:=h;have key:∀b:S,b≠[]->(∀c∈b,gL c=true)->(1<b.length->¬ pV b=48)->dec b=0->b=[48]:=by
   intro b hb hc h1 hd;cases b with
   | nil=>exact absurd rfl hb
   | cons c l=>
    have e:dec (c::l)=(c.toNat - 48)*10 ^ l.length+dec l:=by have:=Iq [c] l;simpa[dec,oL]using this
    rw[e]at hd;have hp:0<10 ^ l.length:=Nat.pow_pos (by omega);have hcd:=hc c (by simp);simp only[gL,bh,bA]at hcd;have Mt:c.toNat=48:=by
     by_cases h:c.toNat - 48=0
     ·omega
     ·have:1*10 ^ l.length<=(c.toNat - 48)*10 ^ l.length:=gX _ (by omega);omega
    cases l with
    | nil=>rw[show c=48 from UInt8.toNat_inj.1 Mt]
    | cons d l=>exact absurd Mt (h1 (by simp))
  have hb:=key (body s) h2 h1 g3 hd;cases s with
  | nil=>cases hb
  | cons c l=>
   simp only[body]at hb;split at hb
   ·rename_i hc;subst hb;have:c=45:=UInt8.toNat_inj.1 hc;subst this;exact absurd rfl g2
   ·exact hb
 ·rintro rfl;rfl
end Go.Ev.X
namespace Go.Ev.X
section
section
variable {B:Nat}
theorem Fc(x P:Nat)(hP:0<P):x / P*P<=x/\x<(x / P+1)*P:=by refine⟨Nat.div_mul_le_self x P,?_⟩;have:=xO x P;have h2:=lS x hP;rw[iJ,Nat.one_mul,dP];omega
theorem afl{b r:List Nat}{size:Nat}(hB:2<=B)(hb:Sm B b)(hl:b.length=size)(h2:2<=size)(mh:B<=2*b.getD (size - 1) 0)(hr:Sm B r)(hR:val B r<B*val B b):
 Dg B (val B r) (val B b) (r.getD size 0*B+r.getD (size - 1) 0) (r.getD (size - 2) 0) (b.getD (size - 1) 0) (b.getD (size - 2) 0) (B ^ (size - 2)):=by
 have hP:0<B ^ (size - 2):=Nat.pow_pos (by omega);have e1:size - 2+1=size - 1:=by omega
 have e2:size - 1+1=size:=by omega
 have vb:val B b / B ^ (size - 2)=b.getD (size - 1) 0*B+b.getD (size - 2) 0:=by rw[Cs hb (by omega),yH,e1,yH,e2,re (by omega)];simp only[val,kE,kF];rw[dP B,rm]
 have vr:val B r / B ^ (size - 2)=(r.getD size 0*B+r.getD (size - 1) 0)*B+r.getD (size - 2) 0:=by
  have h0:val B (r.drop (size+1))=0:=by rw[←Cs hr (by omega)];apply Nat.div_eq_of_lt;have h3:=pF hb;rw[hl]at h3;have:B*val B b<B*B ^ size:=GQ h3 (by omega);rw[gI,dP (B ^ size)];omega
  rw[Cs hr (by omega),yH,e1,yH,e2,yH,h0];simp only[kE,kF];generalize r.getD size 0=x;generalize r.getD (size - 1) 0=y;generalize r.getD (size - 2) 0=z;rw[dP B (y+B*x),dP B x,rm y,rm z]
 have s1:=Fc (val B r) _ hP;have s2:=Fc (val B b) _ hP;rw[vr]at s1;rw[vb]at s2;exact⟨hB,hR,s1.1,s1.2,s2.1,s2.2,hr.getD (by omega) _,hb.getD (by omega) _,mh,hP⟩
theorem VB{b:List Nat}{size:Nat}(hB:2<=B)(hb:Sm B b)(hl:b.length=size)(h2:2<=size)(mh:0<b.getD (size - 1) 0):B ^ (size - 2)*B<=val B b:=by
 have hP:0<B ^ (size - 1):=Nat.pow_pos (by omega);have e:val B b / B ^ (size - 1)=b.getD (size - 1) 0:=by rw[Cs hb (by omega),yH,show size - 1+1=size by omega,re (by omega)];simp[val]
 have s:=(Fc (val B b) _ hP).1;rw[e]at s;rw[←gI,show(size - 2).succ=size - 1 by omega];have:1*B ^ (size - 1)<=b.getD (size - 1) 0*B ^ (size - 1):=gX _ mh;omega
theorem afm{b below:List Nat}{H s:Nat}(hB:B=2*H)(hH:1<=H)(hb:eA B b)(h1:1<=b.length)(hs:s=B / (b.getD (b.length - 1) 0+1))(Yr:eA B below)(hv:val B below=val B b*s):
 below.length=b.length/\B<=2*below.getD (b.length - 1) 0/\1<=s/\s<B:=by
 have hB2:2<=B:=by omega
 have mT:b.getD (b.length - 1) 0<B:=hb.1.getD (by omega) _;have aR:b≠[]:=λe=>by rw[e]at h1;simp at h1
 have hv0:0<b.getD (b.length - 1) 0:=by have:=hb.2 aR;rw[List.getLast_eq_getElem]at this;rw[fj,fO (by omega)];exact xJ this
 have hP:0<B ^ (b.length - 1):=Nat.pow_pos (by omega);have ev:val B b / B ^ (b.length - 1)=b.getD (b.length - 1) 0:=by rw[Cs hb.1 (by omega),yH,show b.length - 1+1=b.length by omega,re (by omega)];simp[val]
 have sp:=Fc (val B b) _ hP;rw[ev]at sp;generalize Mu:b.getD (b.length - 1) 0=v at*;have s1:1<=s:=by rw[hs];exact(Nat.le_div_iff_mul_le (by omega)).2 (by omega)
 have sB:s*(v+1)<=B:=by rw[hs];exact Nat.div_mul_le_self _ _
 have sB2:B<(s+1)*(v+1):=by have:=(Fc B (v+1) (by omega)).2;rw[←hs]at this;exact this
 have s2:s<B:=by have:s*2<=s*(v+1):=rh _ (by omega);omega
 have hpe:B*B ^ (b.length - 1)=B ^ b.length:=by rw[dP,←gI,show(b.length - 1).succ=b.length by omega]
 have ω:val B below<B ^ b.length:=by
  rw[hv,←hpe];have a1:val B b*s<(v+1)*B ^ (b.length - 1)*s:=Nat.mul_lt_mul_of_pos_right sp.2 (by omega);have a2:(v+1)*B ^ (b.length - 1)*s=s*(v+1)*B ^ (b.length - 1):=by rw[dP _ s,iE]
  have a3:s*(v+1)*B ^ (b.length - 1)<=B*B ^ (b.length - 1):=gX _ sB;omega
 have D5:s*v*B ^ (b.length - 1)<=val B below:=by rw[hv,dP (val B b),iE];exact rh _ sp.1
 have X7:1<=s*v:=Nat.mul_pos s1 hv0;have hlen:below.length=b.length:=by
  have l1:below.length<=b.length:=by
   by_cases jU:below=[]
   ·rw[jU];simp
   ·have:=Ip (B:=B) Yr.2 (by omega) jU;have:=(Nat.pow_lt_pow_iff_right (a:=B) (by omega)).1 (Nat.lt_of_le_of_lt this ω);omega
  have l2:b.length - 1<below.length:=by have:=pF Yr.1;have h3:1*B ^ (b.length - 1)<=s*v*B ^ (b.length - 1):=gX _ X7;exact(Nat.pow_lt_pow_iff_right (a:=B) (by omega)).1 (by omega)
  omega
 refine⟨hlen,?_,s1,s2⟩;have afn:val B below / B ^ (b.length - 1)=below.getD (b.length - 1) 0:=by rw[Cs Yr.1 (by omega),yH,show b.length - 1+1=b.length by omega,re (by omega)];simp[val]
 have ht:s*v<=below.getD (b.length - 1) 0:=by rw[←afn];exact(Nat.le_div_iff_mul_le hP).2 D5
 have jR:H<=s*v:=by
  by_cases hvH:H<=v
  ·have:1*v<=s*v:=gX _ s1;omega
  ·rcases jC (s*v) H with ω | h
   ·exfalso;have e1:(s+1)*(v+1)=s*v+s+v+1:=by rw[gl,iJ];omega
    have kz:H+1 - v<=s:=by omega
    have h3:(H+1 - v)*v<=s*v:=gX _ kz;obtain⟨x,hx⟩:∃x,H - v=x:=⟨_,rfl⟩;obtain⟨y,hy⟩:∃y,v=y+1:=⟨v - 1,by omega⟩;have h4:(H+1 - v)*v=x*y+x+y+1:=by rw[show H+1 - v=x+1 by omega,hy,gl,iJ];omega
    have:0<=x*y:=uw _;omega
   ·exact h
 omega
end
end
end Go.Ev.X
namespace Go.Ev.X
open Go Go.Ev
attribute [local irreducible] WC WO WD SO τ
section
variable {C:Nat->Option bN}{h:Hf}{n:K}{Q:V->Hf->K->Prop}
theorem sx{g:Nat}(hg:C g=some (.go f38)){x:Bool}{e:Int}(hQ:Q (.i .i64 (if x then e else 0)) h n):τ C (.f g [] []) [.b x,.i .i64 e] h n Q:=by
 refine τ.go hg rfl ?_;refine ζ<|γ U<|ε ?_;refine ξ<|ζ<|γ U<|ε ?_;refine cB U (λhx=>?_) (λhx=>?_)
 ·refine ζ<|γ U<|γ U<|ε (Θ ⟨_,rfl,by subst hx;exact hQ⟩)
 ·refine ae ?_;refine ζ<|γ U<|ε (Θ ⟨_,rfl,by subst hx;exact hQ⟩)
theorem AH{g:Nat}(hg:C g=some (.go f104)){op:Int}(hQ:Q (.b (decide (op=17\/op=18))) h n):τ C (.f g [] []) [.i .i64 op] h n Q:=by
 refine τ.go hg rfl ?_;refine ζ<|γ U<|ε ?_;by_cases h1:op=17
 ·refine ζ<|γ U<|bm U U<|γ U<|μ U (by simp[h1])<|μ U (by simp[h1])<|aS U (by simp[h1]) U<|γ U<|ε (Θ ⟨_,rfl,by simpa[h1]using hQ⟩)
 ·refine ζ<|γ U<|bm U U<|γ U<|κ U (by simp[h1])<|γ U<|κ U (by simp[h1])<|bm U U<|aK U (by simp[h1]) U<|γ U<|ε (Θ ⟨_,rfl,by simpa[h1]using hQ⟩)
def gQ:List Int->Int
 | []=>0
 | a::l=>if a=0 then gQ l else a
theorem VC{l:List Int}{i:Nat}(hi:i<l.length):gQ (l.drop i)=if l[i]=0 then gQ (l.drop (i+1)) else l[i]:=by rw[fC hi,gQ]
theorem afo{v:V}{l:List Int}{ik:IntKind}(hv:eL h n .i64 v l)(hlen:l.length<1000000):∀(m i:Nat),l.length - i=m->i<=l.length->(Q (.i .i64 (gQ (l.drop i))) h n)->WC C RV [(k5,v),(k6,.i .i64 (l.length:Nat)),(k7,.i .i64 (i:Nat)),(k2,.i .i64 0)] h n (blk 0 (sq C RW (fq [.t k2] Q))):=by
 intro m
 induction m with
 | zero=>
  intro i hm hi hQ;refine aJ ?_;refine ζ<|aO U U<|ε ?_;refine ξ<|ay U (by simp;omega)<|bM ?_;have:i=l.length:=by omega
  subst this;refine ζ<|γ U<|ε (Θ ⟨_,rfl,by simpa[gQ]using hQ⟩)
 | succ m ih=>
  intro i hm hi hQ;have ω:i<l.length:=by omega
  refine aJ ?_;refine ζ<|aO U U<|ε ?_;refine ξ<|an U (by simp;omega)<|ae ?_;refine ξ<|aC<|ζ<|bj U U (hv) (ω)<|ν U (hv.get ω _)<|γ U<|ε ?_;refine ζ<|γ U<|dE U U<|ε ?_;rw[VC ω]at hQ;refine cB U (λhx=>?_) (λhx=>?_)
  ·refine ζ<|γ U<|γ U<|ε (Θ ⟨_,rfl,by simp at hx;rw[Ξ hx]at hQ;exact hQ⟩)
  ·refine ae ?_;simp at hx;rw[au hx]at hQ;refine aL<|cU U U ⟨by omega,by omega⟩<|γ U<|ε ?_;exact Γ (ih (i+1) (by omega) (by omega) hQ) ⟨rfl,rfl,rfl,rfl,trivial⟩
theorem Jm{g:Nat}(hg:C g=some (.go f25)){v:V}{l:List Int}(hv:eL h n .i64 v l)(hlen:l.length<1000000)(hQ:Q (.i .i64 (gQ l)) h n):τ C (.f g [] []) [v] h n Q:=by refine τ.go hg rfl ?_;refine ζ<|γ U<|ε ?_;refine ξ<|ζ<|γ U<|az U (hv)<|γ U<|ε ?_;exact aC (Γ (afo (ik:=.i64) hv hlen _ 0 rfl (by omega) hQ) ⟨rfl,rfl,rfl,rfl,trivial⟩)
theorem afp{v:V}{l:List Int}(hv:eL h n .i64 v l)(hlen:l.length<1000000):∀(m i:Nat),l.length - i=m->i<=l.length->(Q (.i .i64 (gQ (l.drop i))) h n)->WC C SU [(k0,v),(k3,.i .i64 (i:Nat)),(k2,.i .i64 0)] h n (blk 0 (sq C SV (fq [.t k2] Q))):=by
 intro m
 induction m with
 | zero=>
  intro i hm hi hQ;refine aJ ?_;refine ξ<|ζ<|γ U<|γ U<|az U (hv)<|aO U U<|ε ?_;refine ay U (by simp;omega)<|bM ?_;have:i=l.length:=by omega
  subst this;refine ζ<|γ U<|ε (Θ ⟨_,rfl,by simpa[gQ]using hQ⟩)
 | succ m ih=>
  intro i hm hi hQ;have ω:i<l.length:=by omega
  refine aJ ?_;refine ξ<|ζ<|γ U<|γ U<|az U (hv)<|aO U U<|ε ?_;refine an U (by simp;omega)<|ae ?_;refine ξ<|aC<|ζ<|γ U<|γ U<|bj U U (hv) (ω)<|ν U (hv.get ω _)<|dE U U<|ε ?_;rw[VC ω]at hQ;refine cB U (λhx=>?_) (λhx=>?_)
  ·refine ζ<|γ U<|γ U<|bj U U (hv) (ω)<|ν U (hv.get ω _)<|γ U<|ε (Θ ⟨_,rfl,by simp at hx;rw[Ξ hx]at hQ;exact hQ⟩)
  ·refine ae ?_;simp at hx;rw[au hx]at hQ;refine aL<|γ U<|cU U U ⟨by omega,by omega⟩<|γ U<|ε ?_;exact Γ (ih (i+1) (by omega) (by omega) hQ) ⟨rfl,rfl,rfl,trivial⟩
theorem Gh{g:Nat}(hg:C g=some (.go f30)){v:V}{l:List Int}(hv:eL h n .i64 v l)(hlen:l.length<1000000)(hQ:Q (.i .i64 (gQ l)) h n):τ C (.f g [] []) [v] h n Q:=by refine τ.go hg rfl ?_;refine ζ<|γ U<|ε ?_;refine ξ<|ζ<|γ U<|ε ?_;exact aC (Γ (afp hv hlen _ 0 rfl (by omega) hQ) ⟨rfl,rfl,rfl,trivial⟩)
end
section
variable {C:Nat->Option bN}{h:Hf}{n:K}{Q:V->Hf->K->Prop}
def mU(h:Hf)(n:K)(v:V)(ts:List Nd)(m:List (V×V)):Prop:=
 ∃hm:m.length=ts.length,φ h n 5 v ts.length (eZ ts m)/\∀i (hi:i<ts.length),ep h n (m[i]'(by omega)).1 ts[i].vars/\eL h n .i64 (m[i]'(by omega)).2 ts[i].kids
theorem mU.ext{v:V}{ts:List Nd}{m:List (V×V)}{h':Hf}{n':K}(a:mU h n v ts m)(e:Ext h n h' n'):mU h' n' v ts m:=by obtain⟨hm,h1,h2⟩:=a;exact⟨hm,h1.ext e,λi hi=>⟨(h2 i hi).1.ext e,(h2 i hi).2.ext e⟩⟩
theorem mU.row{v:V}{ts:List Nd}{m:List (V×V)}(a:mU h n v ts m){i:Nat}(hi:i<ts.length):
 ∃vv kv,((eZ ts m).drop (i*5)).take 5=cR ts[i] vv kv/\ep h n vv ts[i].vars/\eL h n .i64 kv ts[i].kids:=by
 obtain⟨hm,h1,h2⟩:=a;exact⟨_,_,Er hm hi,(h2 i hi).1,(h2 i hi).2⟩
theorem dA.get{v:V}{ts:List Nd}(a:dA h n v ts):∃m,mU h n v ts m:=a
def Db(ts:List Nd)(m:List (V×V)):List (List V):=
 (List.range ts.length).map λi=>[.a (((eZ ts m).drop (i*5)).take 5++[.i .i64 (i:Nat)])]
theorem Cu(ts:List Nd)(m:List (V×V)):(Db ts m).length=ts.length:=by simp[Db]
theorem Fe(ts:List Nd)(m:List (V×V)){i:Nat}(hi:i<(Db ts m).length):(Db ts m)[i]=[.a (((eZ ts m).drop (i*5)).take 5++[.i .i64 (i:Nat)])]:=by simp[Db]
theorem dW{cs l:List V}{sz:Nat}(h1:cs.length=sz)(h2:cs.length=l.length)(ho:bE cs=true):nh l 0 0 sz (.a cs)=some cs:=by simp only[nh,V.cells,h1,ho,eK];rw[Q6 _ _ h2,dD];simp[Nat.ble]
theorem afq{cs:List V}(hl:cs.length=5)(ho:bE cs=true){E:Env}{k1 k2:K}{i:Int}(h1:lk E k1=some (.a cs))(h2:lk E k2=some (.i .i64 i)):
 jh E [.i .i64 0,.s 0 0,.s 0 0,.ns,.ns,.i .i64 0] [(0,5,.t k1),(5,1,.t k2)]=some (cs++[.i .i64 i]):=by
 match cs,hl with
 | [a,b,c,d,e],_=>
  simp only[jh,ge,h1,h2,V.cells,fH,p9,ho,Nat.beq,om,cond_true,eK,over,bE,V.one];rfl
theorem afr(hC:Cd C){t:V}{ts:List Nd}{m:List (V×V)}{b:K}{e fz:Nat}(hlen:ts.length<1000000):
 Iter C (.f 131 [] [.p b 0]) (λh n=>b.num<n.num/\h b=some (.c [t] e fz)/\mU h n t ts m) (Db ts m):=by
 intro y I D h n hE hF hS h0;refine τ.go hC.f131 U ?_;obtain⟨hb,pU,hm,ht,_⟩:=hF _ _ _ h0;refine ζ<|ν U (dL pU rfl _)<|az U (ht)<|γ U<|ε ?_;refine aC ?_;have key:∀(r i:Nat) (h:Hf) (n:K),ts.length - i=r->i<=ts.length->I i h n->WC C RX [(k0,y),(k5,t),(k6,.i .i64 (ts.length:Nat)),(k7,.i .i64 (i:Nat))] h n (blk 0 (fq [] (λv h' n'=>I (Db ts m).length h' n'\/D h' n'))):=by
  intro r
  induction r with
  | zero=>
   intro i h n hr hi hI;have:i=ts.length:=by omega
   subst this;refine aJ ?_;refine ζ<|aO U U<|ε ?_;refine ξ<|ay U (by simp)<|bM ⟨_,rfl,?_⟩;rw[Cu];exact Or.inl hI
  | succ r ih=>
   intro i h n hr hi hI;have ω:i<ts.length:=by omega
   obtain⟨hb,pU,hm,ht,hh⟩:=hF _ _ _ hI;have mJ:bE (((eZ ts m).drop (i*5)).take 5)=true:=by rw[Er hm ω];have h1:=φ.one (hh i ω).1;have h2:=φ.one (hh i ω).2;simp only[cR,bE,h1,h2,Bool.and_true];rfl
   have Ir:(((eZ ts m).drop (i*5)).take 5).length=5:=by simp[Hw hm];omega
   refine aJ ?_;refine ζ<|aO U U<|ε ?_;refine ξ<|an U (by simp;omega)<|ae ?_;refine ξ<|aC<|ζ<|γ U<|bj U U (ht) (ω)<|ν U (ht.nF (by omega) (by omega))<|du <| λh1 n1 dS a1 e1=>γ U<|bL U U (a1) (dW Ir Ir mJ) <| λh2 a2 b2=>ε ?_;have e2:Ext h n h2 n1:=e1.aj b2 (χ _);refine ζ<|γ U<|ν U (bQ a2 (rB Ir))<|γ U<|mc (afq Ir mJ rfl rfl)<|ak U U ?_;have kS:i<(Db ts m).length:=by rw[Cu];exact ω
   have:=hS i kS h2 n1 (hE _ _ _ _ _ hI e2);rw[Fe]at this;refine τ.mono this ?_;rintro v h3 n3 (⟨rfl,hx⟩ | ⟨rfl,hx⟩)
   ·refine di U<|ε<|ay U U<|ae ?_;refine aL<|cU U U ⟨by omega,by omega⟩<|γ U<|ε ?_;exact Γ (ih (i+1) h3 n3 (by omega) (by omega) hx) ⟨rfl,rfl,rfl,rfl,trivial⟩
   ·refine di U<|ε<|an U U<|Θ ⟨_,rfl,Or.inr hx⟩
 exact Γ (key _ 0 h n rfl (by omega) h0) ⟨rfl,rfl,rfl,rfl,trivial⟩
theorem w53(hC:Cd C){t:V}{ts:List Nd}{m:List (V×V)}(hm:mU h n t ts m)(hlen:ts.length<1000000)
 (hQ:∀b e h' n',Ext h n h' n'->h' b=some (.c [t] e 0)->b.num<n'.num->n.num<=b.num->Iter C (.f 131 [] [.p b 0]) (λh n=>b.num<n.num/\h b=some (.c [t] e 0)/\mU h n t ts m) (Db ts m)->Q (.f 131 [] [.p b 0]) h' n'):τ C (.f 53 [] []) [t] h n Q:=by
 have h1:=hm.2.1.one;refine τ.go hC.f53 U ?_;refine ζ<|et U (hm.2.1.cells) (by simp only[bE,h1];rfl) <| λh1 n1 dS a1 e1=>γ U<|ε ?_;refine ζ<|Am U U<|γ U<|ε (Θ ⟨_,rfl,hQ n 23 h1 n1 e1 a1 (by omega) (χ _) (afr hC hlen)⟩)
def xb(val:Nat->V)(len:Nat):List (List V):=(List.range len).map λi=>[.i .i64 ((len - 1 - i:Nat):Int),val (len - 1 - i)]
theorem oM(val:Nat->V)(len:Nat):(xb val len).length=len:=by simp[xb]
theorem rN(val:Nat->V)(len:Nat){i:Nat}(hi:i<(xb val len).length):(xb val len)[i]=[.i .i64 ((len - 1 - i:Nat):Int),val (len - 1 - i)]:=by simp[xb]
theorem VD{g:Nat}(hg:C g=some (.go f212)){t:V}{len:Nat}{cs:List V}{val:Nat->V}{b:K}{e fz:Nat}(hlen:len<1000000)(mV:∀i,i<len->nth cs i=some (val i)):
 Iter C (.f g [] [.p b 0]) (λh n=>b.num<n.num/\h b=some (.c [t] e fz)/\φ h n 1 t len cs) (xb val len):=by
 intro y I D h n hE hF hS h0;refine τ.go hg rfl ?_;obtain⟨hb,pU,ht⟩:=hF _ _ _ h0;refine ζ<|ν U (dL pU rfl _)<|az U (ht)<|iz U U ⟨by omega,by omega⟩<|γ U<|ε ?_;refine aC ?_;have key:∀(i:Nat) (h:Hf) (n:K),i<=len->I (len - i) h n->WC C RY [(k0,y),(k1,.p b 0),(k3,.i .i64 ((i:Int) - 1))] h n (blk 0 (fq [] (λv h' n'=>I (xb val len).length h' n'\/D h' n'))):=by
  intro i
  induction i with
  | zero=>
   intro h n hi hI;refine aJ ?_;refine ξ<|ζ<|γ U<|fL U U<|ε ?_;refine ay U (by simp)<|bM ⟨_,rfl,?_⟩;rw[oM];exact Or.inl hI
  | succ i ih=>
   intro h n hi hI;obtain⟨hb,pU,ht⟩:=hF _ _ _ hI;have Ys:((i+1:Nat):Int) - 1=(i:Int):=by omega
   rw[Ys];refine aJ ?_;refine ξ<|ζ<|γ U<|fL U U<|ε ?_;refine an U (by simp)<|ae ?_;have hg:aX h false 1 (.p t.blk (t.off+i*1))=some (val i):=by rw[lQ];exact ht.get (mV i (by omega)) _
   refine ξ<|aC<|ζ<|γ U<|γ U<|ν U (dL pU rfl _)<|γ U<|bj U U ht (by omega)<|ν U hg<|ak U U ?_;have kS:len - (i+1)<(xb val len).length:=by rw[oM];omega
   have:=hS _ kS h n hI;rw[rN,show len - 1 - (len - (i+1))=i by omega]at this;refine τ.mono this ?_;rintro v h3 n3 (⟨rfl,hx⟩ | ⟨rfl,hx⟩)
   ·refine di U<|ε<|ay U U<|ae ?_;refine aL<|γ U<|iz U U ⟨by omega,by omega⟩<|γ U<|ε ?_;rw[show len - (i+1)+1=len - i by omega]at hx;exact Γ (ih h3 n3 (by omega) hx) ⟨rfl,rfl,rfl,trivial⟩
   ·refine di U<|ε<|an U U<|Θ ⟨_,rfl,Or.inr hx⟩
 exact Γ (key len h n (by omega) (by rw[qc];exact h0)) ⟨rfl,rfl,rfl,trivial⟩
theorem aft(hC:Cd C){t:V}{ik:IntKind}{l:List Int}(ht:eL h n ik t l)(hlen:l.length<1000000)(val:Nat->V)(mV:∀i (hi:i<l.length),val i=.i ik l[i])
 (hQ:∀b e h' n',Ext h n h' n'->h' b=some (.c [t] e 0)->b.num<n'.num->n.num<=b.num->Iter C (.f 212 [] [.p b 0]) (λh n=>b.num<n.num/\h b=some (.c [t] e 0)/\eL h n ik t l) (xb val l.length)->Q (.f 212 [] [.p b 0]) h' n'):τ C (.f 149 [] []) [t] h n Q:=by
 have h1:=φ.one ht;refine τ.go hC.f149 U ?_;refine ζ<|et U (φ.cells ht) (by simp only[bE,h1];rfl) <| λh1 n1 dS a1 e1=>γ U<|ε ?_;refine ζ<|Am U U<|γ U<|ε (Θ ⟨_,rfl,hQ n 67 h1 n1 e1 a1 (by omega) (χ _) (VD hC.f212 hlen (λi hi=>by rw[mV i hi];exact KW ik hi))⟩)
theorem afu(hC:Cd C){t:V}{ik:IntKind}{l:List Int}(ht:eL h n ik t l)(hlen:l.length<1000000)(val:Nat->V)(mV:∀i (hi:i<l.length),val i=.i ik l[i])
 (hQ:∀b e h' n',Ext h n h' n'->h' b=some (.c [t] e 0)->b.num<n'.num->n.num<=b.num->Iter C (.f 316 [] [.p b 0]) (λh n=>b.num<n.num/\h b=some (.c [t] e 0)/\eL h n ik t l) (xb val l.length)->Q (.f 316 [] [.p b 0]) h' n'):τ C (.f 297 [] []) [t] h n Q:=by
 have h1:=φ.one ht;refine τ.go hC.f297 U ?_;refine ζ<|et U (φ.cells ht) (by simp only[bE,h1];rfl) <| λh1 n1 dS a1 e1=>γ U<|ε ?_;refine ζ<|Am U U<|γ U<|ε (Θ ⟨_,rfl,hQ n 269 h1 n1 e1 a1 (by omega) (χ _) (VD hC.f316 hlen (λi hi=>by rw[mV i hi];exact KW ik hi))⟩)
end
section
variable {C:Nat->Option bN}{h:Hf}{n:K}{Q:V->Hf->K->Prop}
def fB(f:Nat->Nat):List Int->Int->Bool
 | [],_=>true
 | k::l,next=>if k<0\/k≠next - 1 then false else fB f l (f k.toNat)
def iC(ts:List Nd)(i:Nat):List Int:=match ts[i]? with | some x=>x.kids | none=>[]
def tv(ts:List Nd)(l:List Nat)(i:Nat):Nat:=
 match iC ts i with
 | []=>i
 | k::ks=>if fB (λj=>l.getD j 0) (k::ks).reverse i then l.getD k.toNat 0 else i
def fl(ts:List Nd):Nat->List Nat
 | 0=>[]
 | i+1=>fl ts i++[tv ts (fl ts i) i]
def fs(ts:List Nd)(i:Nat):Nat:=(fl ts (i+1)).getD i 0
theorem mW(ts:List Nd)(m:Nat):(fl ts m).length=m:=by induction m<;>simp_all [fl]
theorem Is(ts:List Nd){i:Nat}:∀{m:Nat},i<m->(fl ts m).getD i 0=fs ts i:=by
 intro m
 induction m with
 | zero=>intro h;omega
 | succ m ih=>
  intro h;by_cases hm:i<m
  ·rw[←ih hm,fl];simp[fj,wu (show i<(fl ts m).length by rw[mW];exact hm)]
  ·have:i=m:=by omega
   subst this;rfl
theorem VE{f g:Nat->Nat}:∀{l:List Int} {next:Int},(∀j:Nat,(j:Int)<next->f j=g j/\(f j:Int)<=j)->fB f l next=fB g l next:=by
 intro l
 induction l with
 | nil=>intro next _;rfl
 | cons k l ih=>
  intro next h;simp only[fB];by_cases hk:k<0\/k≠next - 1
  ·simp[hk]
  ·simp only[hk,if_false];have h1:=h k.toNat (by omega);rw[←h1.1];exact ih (λj hj=>h j (by omega))
theorem It(ts:List Nd):∀{m i:Nat},(fl ts m).getD i 0<=i:=by
 intro m
 induction m with
 | zero=>intro i;simp[fl]
 | succ m ih=>
  intro i;by_cases hm:i<m
  ·rw[fl,fj,wu (by rw[mW];exact hm),←fj];exact ih
  ·by_cases hi:i=m
   ·subst hi;have:(fl ts (i+1)).getD i 0=tv ts (fl ts i) i:=by
     rw[fl,fj,zw (by rw[mW];exact χ _),mW];simp
    rw[this];unfold tv;split
    ·exact χ _
    ·rename_i k ks nk;split
     ·rename_i ho;have key:∀(l:List Int) (next:Int),fB (λj=>(fl ts i).getD j 0) l next=true->∀k∈l,k<next/\0<=k:=by
       intro l
       induction l with
       | nil=>intro next _ k hk;cases hk
       | cons a l Mv=>
        intro next ho k hk;simp only[fB]at ho;split at ho
        ·cases ho
        ·rename_i Mw;cases hk with
         | head=>omega
         | tail _ hk=>
          have:=Mv _ ho k hk;have h2:((fl ts i).getD a.toNat 0)<=a.toNat:=ih;omega
      have:=key _ _ ho k (by simp);have h2:((fl ts i).getD k.toNat 0)<=k.toNat:=ih;omega
     ·exact χ _
   ·rw[fj,xI (by rw[mW];omega)];simp
theorem kK(ts:List Nd)(i:Nat):fs ts i<=i:=It ts
def ord(ts:List Nd)(i:Nat):Bool:=fB (fs ts) (iC ts i).reverse i
theorem Iu(ts:List Nd)(i:Nat){m:Nat}(hm:i<=m):fB (λj=>(fl ts m).getD j 0) (iC ts i).reverse i=ord ts i:=
 VE λj hj=>⟨Is ts (by omega),by have:=It ts (m:=m) (i:=j);omega⟩
theorem VF(ts:List Nd)(i:Nat):fs ts i=match iC ts i with | []=>i | k::_=>if ord ts i then fs ts k.toNat else i:=by
 have h1:fs ts i=tv ts (fl ts i) i:=by unfold fs;rw[fl,fj,zw (by rw[mW];exact χ _),mW];simp
 rw[h1];unfold tv;split
 ·rfl
 ·rename_i k ks hk;have:=Iu ts i (χ i);rw[hk]at this;rw[this];by_cases ho:ord ts i=true
  ·simp only[ho,if_true];have ω:k.toNat<i:=by
    have key:∀(l:List Int) (next:Int),fB (fs ts) l next=true->∀k∈l,k<next/\0<=k:=by
     intro l
     induction l with
     | nil=>intro next _ k hk;cases hk
     | cons a l Mv=>
      intro next ho k hk;simp only[fB]at ho;split at ho
      ·cases ho
      ·rename_i Mw;cases hk with
       | head=>omega
       | tail _ hk=>have:=Mv _ ho k hk;have:=kK ts a.toNat;omega
    have:=key _ _ ho k (by rw[hk];simp);omega
   exact Is ts ω
  ·simp only[ho];rfl
theorem afv(ts:List Nd):∀(l:List Int) (next:Int),fB (fs ts) l next=true->∀k∈l,k<next/\0<=k:=by
 intro l
 induction l with
 | nil=>intro next _ k hk;cases hk
 | cons a l Mv=>
  intro next ho k hk;simp only[fB]at ho;split at ho
  ·cases ho
  ·rename_i Mw;cases hk with
   | head=>omega
   | tail _ hk=>have:=Mv _ ho k hk;have:=kK ts a.toNat;omega
theorem xc{ts:List Nd}{i:Nat}(ho:ord ts i=true):∀k∈iC ts i,k<i/\0<=k:=λk hk=>afv ts _ _ ho k (by simpa using hk)
theorem mj{ts:List Nd}{i:Nat}(hi:i<ts.length):iC ts i=ts[i].kids:=by simp[iC,hi]
theorem afw{t:V}{ts:List Nd}(ht:dA h n t ts)(hlen:ts.length<1000000):∀(r i:Nat),i<=r->i<ts.length->(∀j,j<=i->ord ts j=true)->Q (.i .i64 (fs ts i:Nat)) h n->WC C RZ [(k0,t),(k1,.i .i64 (i:Nat))] h n (blk 0 (sq C R0 (fq [.t k4] Q))):=by
 intro r
 induction r with
 | zero=>
  intro i hr hi ho hQ;have:i=0:=by omega
  subst this;obtain⟨cs,hs⟩:=ht.sl;obtain⟨vv,kv,hx⟩:=ht.node hi;have hk:ts[0].kids=[]:=by
   have:=xc (ho 0 (χ 0));rw[mj hi]at this;cases hk:ts[0].kids with
   | nil=>rfl
   | cons k ks=>have:=this k (by rw[hk];simp);omega
  have hf:fs ts 0=0:=by have:=kK ts 0;omega
  refine aJ ?_;refine ξ<|ζ<|γ U<|γ U<|bj U U (hs) (hi)<|ρ U<|ν U (hx.ks _)<|az U (hx.kids)<|cS U U<|ε ?_;refine ay U (by simp[hk])<|bM ?_;refine ζ<|γ U<|γ U<|ε (Θ ⟨_,rfl,by rw[hf]at hQ;exact hQ⟩)
 | succ r ih=>
  intro i hr hi ho hQ;obtain⟨cs,hs⟩:=ht.sl;obtain⟨vv,kv,hx⟩:=ht.node hi;refine aJ ?_;refine ξ<|ζ<|γ U<|γ U<|bj U U (hs) (hi)<|ρ U<|ν U (hx.ks _)<|az U (hx.kids)<|cS U U<|ε ?_;rw[VF,mj hi,ho i (χ i)]at hQ;have ω:=xc (ho i (χ i));rw[mj hi]at ω;cases hk:ts[i].kids with
  | nil=>
   rw[hk]at hQ;refine ay U (by simp)<|bM ?_;refine ζ<|γ U<|γ U<|ε (Θ ⟨_,rfl,hQ⟩)
  | cons k ks=>
   rw[hk]at hQ ω;have ja:=ω k (by simp);have h0:0<ts[i].kids.length:=by rw[hk];simp
   have hg:=hx.kids.get h0 1;simp only[hk,uq]at hg;refine an U (by simp)<|ae ?_;have sM:k=((k.toNat:Nat):Int):=by omega
   refine aC<|aL<|γ U<|γ U<|bj U U (hs) (hi)<|ρ U<|ν U (hx.ks _)<|bj U U (hx.kids) (h0)<|ν U (hg)<|γ U<|ε ?_;rw[sM];exact Γ (ih k.toNat (by omega) (by omega) (λj hj=>ho j (by omega)) (by simpa using hQ)) ⟨rfl,rfl,trivial⟩
theorem w73{g:Nat}(hg:C g=some (.go f73)){t:V}{ts:List Nd}{i:Nat}(ht:dA h n t ts)(hlen:ts.length<1000000)(hi:i<ts.length)(ho:∀j,j<=i->ord ts j=true)(hQ:Q (.i .i64 (fs ts i:Nat)) h n):
 τ C (.f g [] []) [t,.i .i64 (i:Nat)] h n Q:=by
 refine τ.go hg rfl ?_;refine ζ<|γ U<|ε ?_;exact ξ<|aC<|Γ (afw ht hlen i i (χ i) hi ho hQ) ⟨rfl,rfl,trivial⟩
end
section
variable {C:Nat->Option bN}{h:Hf}{n:K}{Q:V->Hf->K->Prop}
def Cl(h:Hf)(n:K)(b:K)(l:List V)(e:Nat):Prop:=b.num<n.num/\h b=some (.c l e 0)
theorem Cl.ext{h h':Hf}{n n' b:K}{l:List V}{e:Nat}(a:Cl h n b l e)(x:Ext h n h' n'):Cl h' n' b l e:=⟨fk a.1 x.1,by rw[x.2 _ a.1];exact a.2⟩
theorem Cl.aj{h h':Hf}{n b k:K}{l:List V}{e:Nat}(a:Cl h n b l e)(x:de k h h')(hk:b.num≠k.num):Cl h' n b l e:=⟨a.1,by rw[x _ hk];exact a.2⟩
theorem Cl.up{h:Hf}{n n' b:K}{l:List V}{e:Nat}(a:Cl h n b l e)(hn:n.num<=n'.num):Cl h n' b l e:=⟨fk a.1 hn,a.2⟩
theorem Cl.ld{h:Hf}{n b:K}{l:List V}{e:Nat}(a:Cl h n b l e){o:Nat}{v:V}(hv:nth l o=some v)(sz:Nat):aX h false sz (.p b o)=some v:=dL a.2 hv sz
theorem afy{f:Nat->Nat}{l:List Int}{j:Nat}{next:Int}(hj:j<l.length):fB f (l.drop j) next=if l[j]<0\/l[j]≠next - 1 then false else fB f (l.drop (j+1)) (f l[j].toNat):=by rw[fC hj,fB]
theorem VG(x:Nd){vv kv:V}(hv:vv.one=true)(hk:kv.one=true){k:IntKind}{i:Int}:bE (cR x vv kv++[.i k i])=true:=by simp only[cR,xK,List.nil_append,bE,hv,hk,Bool.and_true];rfl
theorem w68(hC:Cd C){t:V}{ts:List Nd}{i:Nat}{vv kv:V}(ht:dA h n t ts)(hlen:ts.length<1000000)(hi:i<ts.length)(hk:eL h n .i64 kv ts[i].kids)(fm:ts[i].kids.length<1000000)(hv:vv.one=true)(ho:∀j,j<i->ord ts j=true)
 (hQ:∀h' n',Ext h n h' n'->Q (.b (ord ts i)) h' n'):τ C (.f 68 [] []) [t,.a (cR ts[i] vv kv++[.i .i64 (i:Nat)])] h n Q:=by
 have y5:=ht.sl.choose_spec.one;have Jn:=φ.one hk;refine τ.go hC.f68 U ?_;refine ζ<|et U (ht.sl.choose_spec.cells) (by simp only[bE,y5];rfl) <| λh1 n1 dS a1 e1=>et U (rfl) (VG _ hv Jn) <| λh2 n2 iL a2 e2=>du <| λh3 n3 og a3 e3=>ε ?_;have c2:Cl h3 n3 n1 (cR ts[i] vv kv++[.i .i64 (i:Nat)]) 113:=Cl.ext ⟨by omega,a2⟩ e3;refine ζ<|ρ U<|ν U (c2.ld U _)<|du <| λh4 n4 wj a4 e4=>bL U U (a4) (rfl) <| λh5 a5 b5=>ε ?_;have e5:Ext h n h5 n4:=(((e1.trans e2).trans e3).trans e4).aj b5 (by omega);have c1:Cl h5 n4 n [t] 23:=(((Cl.ext ⟨by omega,a1⟩ e2).ext e3).ext e4).aj b5 (by omega);have c2:Cl h5 n4 n1 (cR ts[i] vv kv++[.i .i64 (i:Nat)]) 113:=(c2.ext e4).aj b5 (by omega);have c3:Cl h5 n4 n2 [.b false] 4:=(Cl.ext ⟨by omega,a3⟩ e4).aj b5 (by omega);have c4:Cl h5 n4 n3 [.i .i64 (i:Nat)] 3:=⟨by omega,a5⟩;refine ξ<|ζ<|ρ U<|ρ U<|ν U (c2.ld U _)<|ak U U<|aft hC (hk.ext e5) fm (λj=>.i .i64 (ts[i].kids.getD j 0)) (λj hj=>by simp[fj,hj]) ?_;intro b e h6 n6 e6 a6 qU fM it;refine ε ?_;let I:Nat->Hf->K->Prop:=λj h' n'=>Ext h n h' n'/\(b.num<n'.num/\h' b=some (.c [kv] e 0)/\eL h' n' .i64 kv ts[i].kids)/\Cl h' n' n [t] 23/\Cl h' n' n2 [.b false] 4/\∃next:Nat,Cl h' n' n3 [.i .i64 (next:Nat)] 3/\next<=i/\fB (fs ts) (ts[i].kids.reverse.drop j) next=ord ts i;let D:Ex->Hf->K->Prop:=λex h' n'=>ex=.ret/\Ext h n h' n'/\Cl h' n' n2 [.b false] 4/\ord ts i=false;refine aC<|An U it I D ?_ ?_ ?_ ?_ ?_ ?_ ?_ ?_
 ·rintro j h1 n1 h' n' ⟨g1,⟨g2,g3,g4⟩,g5,g6,next,g7,g8,g9⟩ ex;exact⟨g1.trans ex,⟨fk g2 ex.1,by rw[ex.2 _ g2];exact g3,g4.ext ex⟩,g5.ext ex,g6.ext ex,next,g7.ext ex,g8,g9⟩
 ·rintro j h1 n1 h' ⟨g1,⟨g2,g3,g4⟩,g5,g6,next,g7,g8,g9⟩ bt;have:=e5.1;have:=e6.1;have xy:=g1.aj bt (by omega);exact⟨xy,⟨g2,by rw[bt _ (by omega)];exact g3,hk.ext xy⟩,g5.aj bt (by omega),g6.aj bt (by omega),next,g7.aj bt (by omega),g8,g9⟩
 ·rintro j h1 n1 ⟨g1,g2,_⟩;exact g2
 ·intro j hj;rw[rN];rfl
 ·intro h' bt;have:=e5.1;have:=e6.1;have hs:n6.succ.num=n6.num+1:=K.fQ n6;have g1:Ext h n h' n6.succ:=((e5.trans e6).aj bt (by omega)).succ;refine⟨g1,⟨by omega,by rw[bt _ (by omega)];exact a6,hk.ext g1⟩,((c1.ext e6).aj bt (by omega)).up (by omega),((c3.ext e6).aj bt (by omega)).up (by omega),i,((c4.ext e6).aj bt (by omega)).up (by omega),χ i,?_⟩;rw[ord,mj hi];rfl
 ·rintro j hj h1 m1 E1 oZ ⟨g1,⟨g2,g3,g4⟩,g5,g6,next,g7,g8,g9⟩ jb;have eN:j<ts[i].kids.length:=by rw[oM]at hj;exact hj
  rw[rN]at jb;simp only[lV,p7]at jb;subst jb;have hjr:j<ts[i].kids.reverse.length:=by simpa using eN
  have mV:ts[i].kids.getD (ts[i].kids.length - 1 - j) 0=ts[i].kids.reverse[j]:=by
   have hx:ts[i].kids.length - 1 - j<ts[i].kids.length:=by omega
   rw[List.getElem_reverse,fj,fO hx];rfl
  rw[mV];generalize Jd:ts[i].kids.reverse[j]=kk at*;rw[afy hjr,Jd]at g9;refine aL<|γ U<|ε ⟨rfl,rfl,λh2 bt=>?_⟩;have:=e5.1;have:=e6.1;have c7:=g7.aj bt (by omega);refine aC<|ξ ?_;by_cases h0:kk<0
  ·refine ζ<|γ U<|aO U U<|γ U<|μ U (by simp[h0])<|μ U (by simp[h0])<|μ U (by simp[h0])<|μ U (by simp[h0])<|aS U (by simp[h0]) U<|ε ?_;refine an U U ?_;rw[au (Or.inl h0)]at g9;have c6:=g6.aj bt (by omega);refine ζ<|bL U U (c6.2) (rfl) <| λh7 a7 b7=>ε ?_;refine Θ ⟨oZ,b7 _ (by omega),rfl,(g1.aj bt (by omega)).aj b7 (by omega),⟨by have:=c6.1;omega,a7⟩,g9.symm⟩
  ·by_cases nj:kk=(next:Int) - 1
   ·rw[Ξ (by omega)]at g9;obtain⟨k',rfl⟩:∃k':Nat,kk=(k':Int):=⟨kk.toNat,by omega⟩;refine ζ<|γ U<|aO U U<|γ U<|κ U (by simp<;>omega)<|γ U<|κ U (by simp<;>omega)<|ν U (c7.ld U _)<|κ U (by simp<;>omega)<|iz U U ⟨by omega,by omega⟩<|κ U (by simp<;>omega)<|dE U U<|aK U (by simp<;>omega) U<|ε ?_;refine ay U (by simp[nj])<|ae ?_;refine aL<|ν U ((g5.aj bt (by omega)).ld U _)<|γ U<|ak U U<|w73 hC.f73 (ht.ext (g1.aj bt (by omega))) hlen (by omega) (λj hj=>ho j (by omega))<|bL U U (c7.2) (rfl) <| λh7 a7 b7=>ε ?_;have:=g5.1;have:=g6.1;have:=kK ts k';have q1:=(g1.aj bt (by omega)).aj b7 (by omega);exact⟨oZ,b7 _ (by omega),q1,⟨g2,by rw[b7 _ (by omega),bt _ (by omega)];exact g3,hk.ext q1⟩,(g5.aj bt (by omega)).aj b7 (by omega),(g6.aj bt (by omega)).aj b7 (by omega),fs ts k',⟨c7.1,a7⟩,by omega,by simpa using g9⟩
   ·refine ζ<|γ U<|aO U U<|γ U<|κ U (by simp[h0])<|γ U<|κ U (by simp[h0])<|ν U (c7.ld U _)<|κ U (by simp[h0])<|iz U U ⟨by omega,by omega⟩<|κ U (by simp[h0])<|dE U U<|aK U (by simp[h0]) U<|ε ?_;refine an U (by simp[nj]) ?_;rw[au (Or.inr nj)]at g9;have c6:=g6.aj bt (by omega);refine ζ<|bL U U (c6.2) (rfl) <| λh7 a7 b7=>ε ?_;refine Θ ⟨oZ,b7 _ (by omega),rfl,(g1.aj bt (by omega)).aj b7 (by omega),⟨by have:=c6.1;omega,a7⟩,g9.symm⟩
 ·rintro h' n' oZ ⟨g1,⟨g2,g3,g4⟩,g5,g6,next,g7,g8,g9⟩;rw[oM,re (by simp),fB]at g9;refine ζ<|bL U U (g6.2) (rfl) <| λh7 a7 b7=>ε ?_;refine Θ ⟨_,iO rfl (dL a7 rfl _),?_⟩;rw[g9];exact hQ _ _ (g1.aj b7 (by omega))
 ·rintro ex h' n' h2 oZ ⟨rfl,g1,g2,g3⟩ bt;have:=e5.1;have:=e6.1;have c2:=g2.aj bt (by omega);refine⟨_,iO rfl (c2.ld U _),?_⟩;rw[←g3];exact hQ _ _ (g1.aj bt (by omega))
end
section
variable {C:Nat->Option bN}{h:Hf}{n:K}{Q:V->Hf->K->Prop}
def tw(ts:List Nd)(i:Nat):Int:=match ts[i]? with | some x=>x.op | none=>0
theorem Ff{ts:List Nd}{i:Nat}(hi:i<ts.length):tw ts i=ts[i].op:=by simp[tw,hi]
def nN(ts:List Nd)(op:Int)(len:Nat):List Int->Nat->Bool
 | [],_=>false
 | k::l,j=>(if op=17\/op=18 then decide (tw ts k.toNat=19)==decide ((j:Int)=len - 1) else decide (tw ts k.toNat=19))||nN ts op len l (j+1)
def oN(x:Nd)(vv kv:V)(i:Nat):List V:=[.i .i64 x.op,st x.sort,st x.name,vv,kv,.i .i64 (i:Nat)]
theorem VH(x:Nd)(vv kv:V)(i:Nat):cR x vv kv++[.i .i64 (i:Nat)]=oN x vv kv i:=rfl
theorem Cv(x:Nd){vv kv:V}(hv:vv.one=true)(hk:kv.one=true){i:Nat}:bE (oN x vv kv i)=true:=VG x hv hk
theorem afz(hC:Cd C){t:V}{ts:List Nd}{x:Nd}{vv kv:V}{i:Nat}{b:K}(ht:dA h n t ts)(hlen:ts.length<1000000)(hk:eL h n .i64 kv x.kids)(fm:x.kids.length<1000000)(hr:∀k∈x.kids,0<=k/\k<ts.length)(hb:Cl h n b (oN x vv kv i) 113):
 ∀(r j:Nat),x.kids.length - j=r->j<=x.kids.length->Q (.i .i64 (if nN ts x.op x.kids.length (x.kids.drop j) j then 11 else 0)) h n->WC C R1 [(k0,t),(k3,.p b 0),(aA,kv),(aE,.i .i64 (x.kids.length:Nat)),(aF,.i .i64 (j:Nat))] h n (blk 0 (sq C R2 (fq [.t k4] Q))):=by
 intro r
 induction r with
 | zero=>
  intro j hj C6 hQ;have:j=x.kids.length:=by omega
  subst this;refine aJ ?_;refine ζ<|aO U U<|ε ?_;refine ξ<|ay U (by simp)<|bM ?_;refine ζ<|γ U<|ε (Θ ⟨_,rfl,by simpa[nN]using hQ⟩)
 | succ r ih=>
  intro j hj C6 hQ;have ω:j<x.kids.length:=by omega
  have qz:=hr x.kids[j] (fW _);rw[fC ω,nN]at hQ;obtain⟨k',gJ⟩:∃k':Nat,x.kids[j]=(k':Int):=⟨x.kids[j].toNat,by omega⟩;have hg:=hk.get ω 1;rw[gJ]at qz hQ hg;have AI:k'<ts.length:=by omega
  obtain⟨vv',kv',hx⟩:=ht.node AI;obtain⟨cs,hs⟩:=ht.sl;rw[show((k':Int)).toNat=k' from rfl,Ff AI]at hQ;refine aJ ?_;refine ζ<|aO U U<|ε ?_;refine ξ<|an U (by simp;omega)<|ae ?_;refine ξ<|aC<|ζ<|γ U<|bj U U (hk) (ω)<|ν U (hg)<|γ U<|γ U<|ε ?_;refine ζ<|γ U<|γ U<|bj U U (hs) (AI)<|ρ U<|ν U (hx.op _)<|bm U U<|γ U<|ε ?_;have next:nN ts x.op x.kids.length (x.kids.drop (j+1)) (j+1)=nN ts x.op x.kids.length (x.kids.drop j) j->True:=λ_=>trivial;by_cases hq:x.op=17\/x.op=18
  ·rw[au hq]at hQ;cases he:(decide (ts[k'].op=19)==decide ((j:Int)=(x.kids.length:Int) - 1):Bool) with
   | true=>
    rw[he]at hQ;refine ζ<|ρ U<|ρ U<|ν U (hb.ld U _)<|ak U U<|AH hC.f104<|γ U<|κ U (by simp[hq])<|γ U<|κ U (by simp[hq])<|γ U<|κ U (by simp[hq])<|ρ U<|κ U (by simp[hq])<|ρ U<|κ U (by simp[hq])<|ν U (hb.ld U _)<|κ U (by simp[hq])<|az U (hk)<|κ U (by simp[hq])<|iz U U ⟨by omega,by omega⟩<|κ U (by simp[hq])<|bm U U<|κ U (by simp[hq])<|HM U U<|aS U (by simp[hq]) U<|γ U<|μ U (by exact he)<|μ U (by exact he)<|μ U (by exact he)<|μ U (by exact he)<|μ U (by exact he)<|μ U (by exact he)<|eI U<|μ U (by exact he)<|aS U (by exact he) U<|ε ?_;refine an U U ?_;refine ζ<|γ U<|ε (Θ ⟨_,rfl,by simpa using hQ⟩)
   | false=>
    rw[he]at hQ;refine ζ<|ρ U<|ρ U<|ν U (hb.ld U _)<|ak U U<|AH hC.f104<|γ U<|κ U (by simp[hq])<|γ U<|κ U (by simp[hq])<|γ U<|κ U (by simp[hq])<|ρ U<|κ U (by simp[hq])<|ρ U<|κ U (by simp[hq])<|ν U (hb.ld U _)<|κ U (by simp[hq])<|az U (hk)<|κ U (by simp[hq])<|iz U U ⟨by omega,by omega⟩<|κ U (by simp[hq])<|bm U U<|κ U (by simp[hq])<|HM U U<|aS U (by simp[hq]) U<|γ U<|κ U (by exact he)<|ρ U<|κ U (by exact he)<|ρ U<|κ U (by exact he)<|ν U (hb.ld U _)<|κ U (by exact he)<|ak U U<|AH hC.f104<|κ U (by exact he)<|di U<|κ U (by exact he)<|γ U<|μ U (by simp[hq])<|κ U (by exact he)<|aK U (by simp[hq]) U<|aK U (by exact he) U<|ε ?_;refine ay U (by simp[hq])<|ae ?_;refine aL<|cU U U ⟨by omega,by omega⟩<|γ U<|ε ?_;exact Γ (ih (j+1) (by omega) (by omega) (by simpa using hQ)) ⟨rfl,rfl,rfl,rfl,rfl,trivial⟩
  ·rw[Ξ hq]at hQ;refine ζ<|ρ U<|ρ U<|ν U (hb.ld U _)<|ak U U<|AH hC.f104<|γ U<|μ U (by simp[hq])<|μ U (by simp[hq])<|μ U (by simp[hq])<|μ U (by simp[hq])<|μ U (by simp[hq])<|μ U (by simp[hq])<|μ U (by simp[hq])<|μ U (by simp[hq])<|μ U (by simp[hq])<|aK U (by simp[hq]) U<|γ U<|κ U (rfl)<|ρ U<|κ U (rfl)<|ρ U<|κ U (rfl)<|ν U (hb.ld U _)<|κ U (rfl)<|ak U U<|AH hC.f104<|κ U (rfl)<|di U<|κ U (rfl)<|γ U<|κ U (by simp[hq])<|γ U<|κ U (rfl)<|aS U (by simp[hq]) U<|aK U (rfl) U<|ε ?_;refine cB U (λhc=>?_) (λhc=>ae ?_)
   ·rw[hc]at hQ;refine ζ<|γ U<|ε (Θ ⟨_,rfl,by simpa using hQ⟩)
   ·rw[hc]at hQ;refine aL<|cU U U ⟨by omega,by omega⟩<|γ U<|ε ?_;exact Γ (ih (j+1) (by omega) (by omega) (by simpa using hQ)) ⟨rfl,rfl,rfl,rfl,rfl,trivial⟩
theorem w69(hC:Cd C){t:V}{ts:List Nd}{x:Nd}{vv kv:V}{i:Nat}(ht:dA h n t ts)(hlen:ts.length<1000000)(hv:vv.one=true)(hk:eL h n .i64 kv x.kids)(fm:x.kids.length<1000000)(hr:∀k∈x.kids,0<=k/\k<ts.length)
 (hQ:∀h' n',Ext h n h' n'->Q (.i .i64 (if nN ts x.op x.kids.length x.kids 0 then 11 else 0)) h' n'):τ C (.f 69 [] []) [t,.a (oN x vv kv i)] h n Q:=by
 refine τ.go hC.f69 U ?_;refine ζ<|et U (rfl) (Cv x hv (φ.one hk)) <| λh1 n1 dS a1 e1=>γ U<|ε ?_;have c1:Cl h1 n1 n (oN x vv kv i) 113:=⟨by omega,a1⟩;refine ξ<|ζ<|ρ U<|ρ U<|ν U (c1.ld U _)<|az U (hk)<|γ U<|ε ?_;exact aC<|Γ (afz hC (ht.ext e1) hlen (hk.ext e1) fm hr c1 _ 0 rfl (by omega) (hQ _ _ e1)) ⟨rfl,rfl,rfl,rfl,rfl,trivial⟩
end
section
variable {C:Nat->Option bN}{h:Hf}{n:K}{Q:V->Hf->K->Prop}
theorem afA(hC:Cd C){p:S×S}{name:S}{b:K}(hb:Cl h n b [st name] 9)(hQ:∀h' n',Ext h n h' n'->Q (.b (decide (p.1=name))) h' n'):τ C (.f 168 [] [.p b 0]) [.a [st p.1,st p.2]] h n Q:=by refine τ.go hC.f168 U ?_;refine ζ<|et U U U <| λh1 n1 dS a1 e1=>γ U<|ε ?_;refine ζ<|ρ U<|ν U (dL a1 rfl _)<|ν U ((hb.ext e1).ld U _)<|en U U<|γ U<|ε (Θ ⟨_,rfl,hQ _ _ e1⟩)
def qA(name:S):List (S×S)->Nat->Int
 | [],_=>-1
 | p::l,i=>if p.1=name then (i:Int) else qA name l (i+1)
theorem afB(name:S):∀(l:List (S×S)) (i:Nat),0<=qA name l i↔name∈l.map Prod.fst:=by
 intro l
 induction l with
 | nil=>intro i;simp[qA]
 | cons p l ih=>
  intro i;simp only[qA];by_cases h:p.1=name
  ·simp[h]
  ·rw[Ξ h,ih];simp only[lP,fX];have:name≠p.1:=λe=>h e.symm;simp[this]
theorem VI(name:S)(l:List (S×S))(i:Nat):decide (0<=qA name l i)=decide (name∈l.map Prod.fst):=decide_eq_decide.2 (afB name l i)
theorem afC(hC:Cd C){v:V}{l:List (S×S)}{name:S}{b:K}(hlen:l.length<1000000):∀(r j:Nat) (h:Hf) (n:K),ep h n v l->Cl h n b [st name] 9->l.length - j=r->j<=l.length->(∀h' n',Ext h n h' n'->Q (.i .i64 (qA name (l.drop j) j)) h' n')->WC C Sx [(k0,v),(k1,.f 168 [] [.p b 0]),(k7,.i .i64 (l.length:Nat)),(k8,.i .i64 (j:Nat))] h n (blk 0 (sq C Sy (fq [.t k4] Q))):=by
 intro r
 induction r with
 | zero=>
  intro j h n hv hb hj C6 hQ;have:j=l.length:=by omega
  subst this;refine aJ ?_;refine ζ<|aO U U<|ε ?_;refine ξ<|ay U (by simp)<|bM ?_;refine ζ<|γ U<|ε (Θ ⟨_,rfl,by simpa[qA]using hQ _ _ (Ext.refl h n)⟩)
 | succ r ih=>
  intro j h n hv hb hj C6 hQ;have ω:j<l.length:=by omega
  rw[fC ω,qA]at hQ;refine aJ ?_;refine ζ<|aO U U<|ε ?_;refine ξ<|an U (by simp;omega)<|ae ?_;refine ξ<|aC<|ζ<|γ U<|γ U<|ε ?_;refine ζ<|γ U<|γ U<|γ U<|bj U U (hv) (ω)<|ν U (hv.nF ω)<|ak U U<|afA hC hb <| λh1 n1 e1=>ε ?_;refine cB U (λhc=>?_) (λhc=>ae ?_)
  ·refine ζ<|γ U<|γ U<|ε (Θ ⟨_,rfl,by have:=hQ _ _ e1;rw[au (by simpa using hc)]at this;exact this⟩)
  ·rw[Ξ (by simpa using hc)]at hQ;refine aL<|cU U U ⟨by omega,by omega⟩<|γ U<|ε ?_;exact Γ (ih (j+1) h1 n1 (hv.ext e1) (hb.ext e1) (by omega) (by omega) (λh' n' e=>hQ _ _ (e1.trans e))) ⟨rfl,rfl,rfl,rfl,trivial⟩
theorem w95(hC:Cd C){v:V}{l:List (S×S)}{name:S}(hv:ep h n v l)(hlen:l.length<1000000)(hQ:∀h' n',Ext h n h' n'->Q (.b (decide (name∈l.map Prod.fst))) h' n'):τ C (.f 95 [] []) [v,st name] h n Q:=by
 refine τ.go hC.f95 U ?_;refine ζ<|et U U U <| λh1 n1 dS a1 e1=>γ U<|ε ?_;have hb:Cl h1 n1 n [st name] 9:=⟨by omega,a1⟩;have afD:∀{Q:V->Hf->K->Prop},(∀h' n',Ext h1 n1 h' n'->Q (.i .i64 (qA name l 0)) h' n')->τ C (.f 208 [] []) [v,.f 168 [] [.p n 0]] h1 n1 Q:=by intro Q hQ;refine τ.go hC.f208 U ?_;refine ζ<|γ U<|ε ?_;refine ξ<|ζ<|γ U<|az U (hv)<|γ U<|ε ?_;exact aC<|Γ (afC hC hlen _ 0 h1 n1 (hv.ext e1) hb rfl (by omega) hQ) ⟨rfl,rfl,rfl,rfl,trivial⟩
 have afE:∀{Q:V->Hf->K->Prop},(∀h' n',Ext h1 n1 h' n'->Q (.b (decide (name∈l.map Prod.fst))) h' n')->τ C (.f 144 [] []) [v,.f 168 [] [.p n 0]] h1 n1 Q:=by intro Q hQ;refine τ.go hC.f144 U ?_;refine ζ<|γ U<|ε ?_;refine ζ<|γ U<|γ U<|ak U U<|afD <| λh2 n2 e2=>fL U U<|γ U<|ε (Θ ⟨_,rfl,by rw[VI];exact hQ _ _ e2⟩)
 refine ζ<|γ U<|Am U U<|ak U U<|afE <| λh2 n2 e2=>γ U<|ε (Θ ⟨_,rfl,hQ _ _ (e1.trans e2)⟩)
abbrev nO:S:=[73,110,116]
abbrev oO:S:=[82,101,97,108]
abbrev Cw:S:=[66,111,111,108]
theorem VJ(hC:Cd C){s:S}(hQ:Q (.b (decide (s=nO\/s=oO))) h n):τ C (.f 152 [] []) [st s] h n Q:=by
 refine τ.go hC.f152 U ?_;refine ζ<|γ U<|ε ?_;by_cases h1:s=nO
 ·refine ζ<|γ U<|en (b:=[73,110,116]) U U<|γ U<|μ U (by simp[h1])<|μ U (by simp[h1])<|aS U (by simp[h1]) U<|γ U<|ε (Θ ⟨_,rfl,by simpa[h1]using hQ⟩)
 ·refine ζ<|γ U<|en (b:=[73,110,116]) U U<|γ U<|κ U (by simp[h1])<|γ U<|κ U (by simp[h1])<|en (b:=[82,101,97,108]) U U<|aK U (by simp[h1]) U<|γ U<|ε (Θ ⟨_,rfl,by simpa[h1]using hQ⟩)
end
section
variable {C:Nat->Option bN}{h:Hf}{n:K}{Q:V->Hf->K->Prop}
def xd(l:List Int)(ks:List Int)(m:Int):Int:=ks.foldl (λm k=>max m (l.getD k.toNat 0)) m
def dl(ts:List Nd):Nat->List Int
 | 0=>[]
 | i+1=>dl ts i++[xd (dl ts i) (iC ts i) 0+1]
def Fg(ts:List Nd):Int:=(dl ts ts.length).getD (ts.length - 1) 0
theorem rO(ts:List Nd)(m:Nat):(dl ts m).length=m:=by induction m<;>simp_all [dl]
theorem VK{l:List Int}{b:Int}:∀(ks:List Int) (m:Int),(∀j,l.getD j 0<=b)->m<=b->xd l ks m<=b/\m<=xd l ks m:=by
 intro ks
 induction ks with
 | nil=>intro m _ hm;exact⟨hm,Int.le_refl _⟩
 | cons k ks ih=>
  intro m hl hm;have:=ih (max m (l.getD k.toNat 0)) hl (by have:=hl k.toNat;omega);simp only[xd,List.foldl_cons]at this ⊢;exact⟨this.1,by omega⟩
theorem Mx(ts:List Nd):∀(m j:Nat),(dl ts m).getD j 0<=m/\0<=(dl ts m).getD j 0:=by
 intro m
 induction m with
 | zero=>intro j;simp[dl]
 | succ m ih=>
  intro j;by_cases hj:j<m
  ·rw[dl,fj,wu (by rw[rO];exact hj),←fj];have:=ih j;omega
  ·by_cases hm:j=m
   ·subst hm;have e:(dl ts (j+1)).getD j 0=xd (dl ts j) (iC ts j) 0+1:=by
     rw[dl,fj,zw (by rw[rO];exact χ _),rO];simp
    rw[e];have:=VK (l:=dl ts j) (b:=j) (iC ts j) 0 (λk=>(ih k).1) (by omega);omega
   ·rw[fj,xI (by rw[rO];omega)];simp;omega
def dz(ts:List Nd)(i:Nat):List Int:=dl ts i++List.replicate (ts.length - i) 0
theorem AJ{ts:List Nd}{i:Nat}(hi:i<=ts.length):(dz ts i).length=ts.length:=by simp[dz,rO];omega
theorem My{ts:List Nd}{i k:Nat}(hk:k<i):(dz ts i).getD k 0=(dl ts i).getD k 0:=by rw[dz,fj,wu (by rw[rO];exact hk),←fj]
theorem afF{ts:List Nd}{i:Nat}(hi:i<ts.length):(dz ts i)[i]'(by rw[AJ (by omega)];exact hi)=0:=by unfold dz;rw[List.getElem_append_right (by rw[rO];exact χ _)];simp
theorem VL{ts:List Nd}{i:Nat}(hi:i<ts.length):(dz ts i).set i (xd (dl ts i) (iC ts i) 0+1)=dz ts (i+1):=by
 unfold dz;rw[List.set_append_right _ _ (by rw[rO];exact χ _),rO,qc,dl];have:ts.length - i=(ts.length - (i+1))+1:=by omega
 rw[this,DA,List.set_cons_zero,Bz];rfl
theorem afG{α:Type}(v:α):∀{l:List α} {i:Nat},i<l.length->eK [v] l i=some (l.set i v):=by
 intro l
 induction l with
 | nil=>intro i h;simp at h
 | cons a l ih=>
  intro i h;cases i with
  | zero=>simp[eK,over]
  | succ i=>simp only[eK,ih (by simpa using h),Bv]
theorem afH(k:IntKind)(x:Int):∀(l:List Int) (i:Nat),(ij k l).set i (.i k x)=ij k (l.set i x):=by
 intro l
 induction l with
 | nil=>intro i;rfl
 | cons a l ih=>intro i;cases i with
  | zero=>rfl
  | succ i=>simp only[ij,Bv,ih]
theorem Iv{k:IntKind}{x:Int}{l:List Int}{i:Nat}(hi:i<l.length)(o:Nat)(ho:o=i):nh (ij k l) 0 o 1 (.i k x)=some (ij k (l.set i x)):=by
 subst ho;have:nh (ij k l) 0 o 1 (.i k x)=eK [.i k x] (ij k l) o:=by simp[nh,V.cells,bE,V.one,jB]
 rw[this,afG _ (by rw[Ep];exact hi),afH]
theorem VM(k:IntKind):∀m:Nat,iw [.i k 0] m=ij k (List.replicate m 0):=by
 intro m
 induction m with
 | zero=>rfl
 | succ m ih=>simp only[iw,ih,DA,ij,xK,List.nil_append]
theorem Cl.Jo{b:K}{k:IntKind}{l:List Int}{e len:Nat}(a:Cl h n b (ij k l) e)(hl:l.length=len):eL h n k (.sl b 0 len len) l:=by subst hl;exact φ.whole a.1 a.2 (by simp[Ep])
theorem Iw{l:List Int}{i:Nat}(hi:i<l.length):l.getD i 0=l[i]:=by rw[fj,fO hi];rfl
theorem Mz{b:K}(hb:b.num<n.num){o l c:Nat}:bB n (.sl b o l c)=true:=Q2 hb
theorem MA(b:K)(o l c:Nat):cT (.sl b o l c) (.sl b o l c)=true:=by simp[cT,K.beq_refl]
section
variable {ts:List Nd}{i:Nat}{vv kv:V}{bl c3 c4:K}{Q1:Ex->Env->Hf->K->Prop}
theorem afI(hlen:ts.length<1000000)(hi:i<ts.length)(fm:ts[i].kids.length<1000000)(hr:∀k∈ts[i].kids,k<i/\0<=k)(y8:bl.num≠c3.num)(zW:bl.num≠c4.num):
 ∀(r j:Nat) (m:Int) (h:Hf),ts[i].kids.length - j=r->j<=ts[i].kids.length->0<=m->m<=i->Cl h n c3 [.sl bl 0 ts.length ts.length] 67->Cl h n c4 (oN ts[i] vv kv i) 113->Cl h n bl (ij .i64 ((dz ts i).set i m)) 3->eL h n .i64 kv ts[i].kids->(kv=.ns\/kv.blk.num≠bl.num)->(∀E' h',de bl h h'->Cl h' n bl (ij .i64 ((dz ts i).set i (xd (dl ts i) (ts[i].kids.drop j) m+1))) 3->Q1 .normal E' h' n)->WC C SA [(k3,.p c3 0),(k4,.p c4 0),(aT,kv),(aU,.i .i64 (ts[i].kids.length:Nat)),(aM,.i .i64 (j:Nat))] h n (blk 2 (sq C SB Q1)):=by
 intro r
 induction r with
 | zero=>
  intro j m h hj C6 qi hm Bk tx hK hk Yt hQ;have:j=ts[i].kids.length:=by omega
  subst this;have MC:((dz ts i).set i m).length=ts.length:=by simp[AJ (fY hi)]
  have hI:=hK.Jo MC;have hg:=hI.get (i:=i) (by omega) 1;simp only[Dy]at hg;refine aJ ?_;refine ζ<|aO U U<|ε ?_;refine ξ<|ay U (by simp)<|bM ?_;refine aL<|ν U (Bk.ld U _)<|ρ U<|ν U (tx.ld U _)<|bj U U (hI) (by omega)<|ν U (hg)<|cU U U ⟨by omega,by omega⟩<|bj U U (hI) (by omega)<|bL U U (hK.2) (Iv (i:=i) (by omega) _ (by simp[V.off])) <| λh1 a1 b1=>ε ?_;have b1:de bl h h1:=b1;replace a1:h1 bl=_:=a1;refine hQ _ _ b1 ⟨hK.1,?_⟩;rw[List.set_set]at a1;simpa[xd]using a1
 | succ r ih=>
  intro j m h hj C6 qi hm Bk tx hK hk Yt hQ;have ω:j<ts[i].kids.length:=by omega
  have qz:=hr ts[i].kids[j] (fW _);have Jp:=hk.get ω 1;rw[fC ω]at hQ;obtain⟨k',gJ⟩:∃k':Nat,ts[i].kids[j]=(k':Int):=⟨ts[i].kids[j].toNat,by omega⟩;rw[gJ]at qz Jp hQ;have MC:((dz ts i).set i m).length=ts.length:=by simp[AJ (fY hi)]
  have hI:=hK.Jo MC;have hg:=hI.get (i:=i) (by omega) 1;simp only[Dy]at hg;have MD:=hI.get (i:=k') (by omega) 1;rw[Bs (by omega)]at MD;have hx:(dz ts i)[k']'(by rw[AJ (by omega)];omega)=(dl ts i).getD k' 0:=by rw[←My (by omega),Iw]
  rw[hx]at MD;have Gi:=Mx ts i k';refine aJ ?_;refine ζ<|aO U U<|ε ?_;refine ξ<|an U (by simp;omega)<|ae ?_;refine ξ<|aC<|ζ<|bj U U (hk) (ω)<|ν U (Jp)<|γ U<|ε ?_;refine uG<|aD U (Bk.ld U _) (Mz hK.1) (MA _ _ _ _)<|bX U<|aD U (tx.ld U _) (rfl) (fK _ _)<|aD U (Bk.ld U _) (Mz hK.1) (MA _ _ _ _)<|bX U<|aD U (tx.ld U _) (rfl) (fK _ _)<|cX U U (hI) (by omega)<|aD U (hg) (rfl) (fK _ _)<|aD U (Bk.ld U _) (Mz hK.1) (MA _ _ _ _)<|ao U<|cX U U (hI) (by omega)<|aD U (MD) (rfl) (fK _ _)<|acH U U<|cX U U (hI) (by omega)<|fV U U (hK.2) (Iv (i:=i) (by omega) _ (by simp[V.off])) <| λh1 a1 b1=>cG (by simp[AG,gP,jW,Nat.testBit]) ?_;have b1:de bl h h1:=b1;replace a1:h1 bl=_:=a1;rw[List.set_set]at a1;refine aL<|cU U U ⟨by omega,by omega⟩<|γ U<|ε ?_;refine Γ (ih (j+1) (max m ((dl ts i).getD k' 0)) h1 (by omega) (by omega) (by omega) (by omega) (Bk.aj b1 (by omega)) (tx.aj b1 (by omega)) ⟨hK.1,a1⟩ (φ.aj hk b1 Yt) Yt ?_) ⟨rfl,rfl,rfl,rfl,rfl,trivial⟩;intro E' h' bb cc;exact hQ E' h' (λk hk=>by rw[bb k hk,b1 k hk]) (by simpa[xd]using cc)
end
theorem w74(hC:Cd C){t:V}{ts:List Nd}(ht:dA h n t ts)(hlen:ts.length<1000000)(h0:0<ts.length)(fm:∀i (hi:i<ts.length),ts[i].kids.length<1000000)(ho:∀j,j<ts.length->ord ts j=true)
 (hQ:∀h' n',Ext h n h' n'->Q (.i .i64 (Fg ts)) h' n'):τ C (.f 74 [] []) [t] h n Q:=by
 obtain⟨m,tm⟩:=ht.get;refine τ.go hC.f74 U ?_;obtain⟨cs,hs⟩:=ht.sl;refine ζ<|γ U<|ε ?_;refine ζ<|γ U<|az U (hs)<|wS U U (by omega) (by omega) <| λh1 n1 dS a1 e1=>du <| λh2 n2 iL a2 e2=>bL U U (a2) (rfl) <| λh3 a3 b3=>ε ?_;have x3:Ext h n h3 n2:=(e1.trans e2).aj b3 (by omega);have c1:Cl h3 n2 n (ij .i64 (dz ts 0)) 3:=by refine((Cl.ext ⟨by omega,?_⟩ e2)).aj b3 (by omega);rw[a1,VM];simp[dz,dl]
 have c2:Cl h3 n2 n1 [.sl n 0 ts.length ts.length] 67:=⟨by omega,a3⟩;refine ξ<|ζ<|γ U<|ak U U<|w53 hC (tm.ext x3) hlen ?_;intro b e h4 n4 x4 a4 zW VN it;refine ε<|aC ?_;let I:Nat->Hf->K->Prop:=λi h' n'=>Ext h n h' n'/\(b.num<n'.num/\h' b=some (.c [t] e 0))/\Cl h' n' n (ij .i64 (dz ts i)) 3/\Cl h' n' n1 [.sl n 0 ts.length ts.length] 67;have y1:=x3.1;have y2:=x4.1;refine An U it I (λ_ _ _=>False) ?_ ?_ ?_ ?_ ?_ ?_ ?_ ?_
 ·rintro j h1 n1 h' n' ⟨g1,⟨g2,g3⟩,g5,g6⟩ ex;exact⟨g1.trans ex,⟨fk g2 ex.1,by rw[ex.2 _ g2];exact g3⟩,g5.ext ex,g6.ext ex⟩
 ·rintro j h1 n1 h' ⟨g1,⟨g2,g3⟩,g5,g6⟩ bt;have xy:=g1.aj bt (by omega);exact⟨xy,⟨g2,by rw[bt _ (by omega)];exact g3⟩,g5.aj bt (by omega),g6.aj bt (by omega)⟩
 ·rintro j h1 n1 ⟨g1,g2,_⟩;exact⟨g2.1,g2.2,tm.ext g1⟩
 ·intro j hj;rw[Fe];rfl
 ·intro h' bt;have hs:n4.succ.num=n4.num+1:=K.fQ n4;have g1:Ext h n h' n4.succ:=((x3.trans x4).aj bt (by omega)).succ;exact⟨g1,⟨by omega,by rw[bt _ (by omega)];exact a4⟩,((c1.ext x4).aj bt (by omega)).up (by omega),((c2.ext x4).aj bt (by omega)).up (by omega)⟩
 ·rintro j hj h1 m1 E1 oZ ⟨g1,⟨g2,g3⟩,g5,g6⟩ jb;have eN:j<ts.length:=by rw[Cu]at hj;exact hj
  rw[Fe]at jb;simp only[lV,p7]at jb;subst jb;obtain⟨vv,kv,mJ,Mu,Fh⟩:=tm.row eN;rw[mJ,VH];have gK:=Cv ts[j] (φ.one Mu) (φ.one Fh) (i:=j);refine aL<|du <| λh5 n5 xz a5 e5=>bL U U a5 (dW rfl rfl gK) <| λh6 a6 b6=>ε ⟨rfl,by rw[b6 _ (by omega),e5.2 _ oZ],λh7 b7=>?_⟩;have c4:Cl h7 n5 m1 (oN ts[j] vv kv j) 113:=(Cl.aj ⟨by omega,a6⟩ b7 (by omega));have x7:Ext h n h7 n5:=((g1.trans e5).aj b6 (by omega)).aj b7 (by omega);have hk7:=Fh.ext x7;have afK:=fm j eN;refine aC ?_;refine ξ<|ζ<|ρ U<|ρ U<|ν U (c4.ld U _)<|az U (hk7)<|γ U<|ε ?_;refine aC ?_;refine Γ (afI (i:=j) (vv:=vv) (c3:=n1) (c4:=m1) (bl:=n) hlen eN afK (by have:=xc (ho j eN);rw[mj eN]at this;exact this) (by omega) (by omega) _ 0 0 h7 rfl (by omega) (by omega) (by omega) (((g6.ext e5).aj b6 (by omega)).aj b7 (by omega)) c4 ?_ hk7 ?_ ?_) ⟨rfl,rfl,rfl,rfl,rfl,trivial⟩
  ·have:=((g5.ext e5).aj b6 (by omega)).aj b7 (by omega);have e0:(dz ts j).set j 0=dz ts j:=by
    apply BB (by simp);intro k h1 h2;rw[List.getElem_set];split
    ·rename_i hk;subst hk;exact(afF eN).symm
    ·rfl
   rw[e0];exact this
  ·cases φ.vJ Fh with
   | inl h=>exact Or.inl h
   | inr h=>exact Or.inr (by omega)
  ·intro E' h8 b8 c8;refine⟨by omega,b8 _ (by omega),x7.aj b8 (χ _),⟨by omega,by rw[b8 _ (by omega),b7 _ (by omega),b6 _ (by omega),e5.2 _ g2];exact g3⟩,?_,(((g6.ext e5).aj b6 (by omega)).aj b7 (by omega)).aj b8 (by omega)⟩;rw[jr,←mj eN,VL eN]at c8;exact c8
 ·rintro h' n' wj ⟨g1,⟨g2,g3⟩,g5,g6⟩;rw[Cu]at g5;have hl:(dz ts ts.length).length=ts.length:=AJ (χ _);have hI:=g5.Jo hl;have hg:=hI.get (i:=ts.length - 1) (by omega) 1;have hx:(dz ts ts.length)[ts.length - 1]'(by omega)=Fg ts:=by rw[←Iw,My (by omega)];rfl
  rw[hx]at hg;refine ζ<|ν U (g6.ld U _)<|ν U (g6.ld U _)<|az U hI<|iz U U ⟨by omega,by omega⟩<|?_;rw[show((dz ts ts.length).length:Int) - 1=((ts.length - 1:Nat):Int) by omega];refine bj U U hI (by omega)<|ν U hg<|γ U<|ε<|Θ ⟨_,rfl,hQ _ _ g1⟩
 ·rintro ex h' n' h2 oZ hf;exact hf.elim
end
section
variable {C:Nat->Option bN}{h:Hf}{n:K}{Q:V->Hf->K->Prop}
theorem qB(hC:Cd C){x:Bool}{e:Int}(hQ:Q (.i .i64 (if x then e else 0)) h n):τ C (.f 77 [] []) [.b x,.i .i64 e] h n Q:=by
 refine τ.go hC.f77 U ?_;refine ζ<|γ U<|ε ?_;refine ξ<|ζ<|γ U<|ε ?_;refine cB U (λhx=>?_) (λhx=>?_)
 ·refine ζ<|γ U<|γ U<|ε (Θ ⟨_,rfl,by subst hx;exact hQ⟩)
 ·refine ae ?_;refine ζ<|γ U<|ε (Θ ⟨_,rfl,by subst hx;exact hQ⟩)
theorem VO(hC:Cd C){c:UInt8}(hQ:Q (.b (gL c)) h n):τ C (.f 267 [] []) [.i .u8 (c.toNat:Nat)] h n Q:=by
 refine τ.go hC.f267 U ?_;refine ζ<|γ U<|ε ?_;by_cases h1:48<=c.toNat
 ·have e:gL c=decide ((c.toNat:Int)<=57):=by simp[gL,h1]<;>omega
  rw[e]at hQ;refine ζ<|γ U<|fL U U<|γ U<|κ U (by simp<;>omega)<|γ U<|κ U (by simp<;>omega)<|pA U U<|aS U (by simp<;>omega) U<|γ U<|ε (Θ ⟨_,rfl,hQ⟩)
 ·have e:gL c=false:=by simp[gL,h1]
  rw[e]at hQ;refine ζ<|γ U<|fL U U<|γ U<|μ U (by simp<;>omega)<|μ U (by simp<;>omega)<|aK U (by simp<;>omega) U<|γ U<|ε (Θ ⟨_,rfl,hQ⟩)
theorem afL(hC:Cd C){b:S}(hlen:b.length<1000000):∀(m i:Nat) (k0v:V),b.length - i=m->i<=b.length->Q (.b ((b.drop i).all gL)) h n->WC C Ta [(k3,st b),(k4,.i .i64 (i:Nat))] h n (blk 0 (sq C Td (fq [.t k2] Q))):=by
 intro m
 induction m with
 | zero=>
  intro i k0v hm hi hQ;refine aJ ?_;refine ξ<|ζ<|γ U<|γ U<|cH U<|aO U U<|ε ?_;refine ay U (by simp;omega)<|bM ?_;have:i=b.length:=by omega
  subst this;refine ζ<|γ U<|ε (Θ ⟨_,rfl,by simpa using hQ⟩)
 | succ m ih=>
  intro i k0v hm hi hQ;have ω:i<b.length:=by omega
  rw[fC ω,List.all_cons]at hQ;refine aJ ?_;refine ξ<|ζ<|γ U<|γ U<|cH U<|aO U U<|ε ?_;refine an U (by simp;omega)<|ae ?_;cases hd:gL b[i] with
  | false=>
   rw[hd]at hQ;refine ξ<|aC<|ζ<|γ U<|γ U<|lZ U U (ω)<|ak U U<|VO hC<|di U<|ε ?_;refine an U (by simp[hd]) ?_;refine ζ<|γ U<|ε (Θ ⟨_,rfl,hQ⟩)
  | true=>
   rw[hd]at hQ;refine ξ<|aC<|ζ<|γ U<|γ U<|lZ U U (ω)<|ak U U<|VO hC<|di U<|ε ?_;refine ay U (by simp[hd])<|ae ?_;refine aL<|γ U<|cU U U ⟨by omega,by omega⟩<|γ U<|ε ?_;exact Γ (ih (i+1) k0v (by omega) (by omega) (by simpa using hQ)) ⟨rfl,rfl,trivial⟩
theorem afM(hC:Cd C){s:S}(hlen:s.length<1000000)(hQ:Q (.b (jl s)) h n):τ C (.f 223 [] []) [st s] h n Q:=by
 have rest:WC C Te [(k0,st s),(k3,st (body s))] h n (fq [.t k2] Q):=by
  have hl:(body s).length<1000000:=by have:=(Fb s).1;omega
  have fin:jl s=(body s).all gL->WC C Lt [(k3,st (body s))] h n (fq [.t k2] Q):=by intro e;refine ξ<|ζ<|γ U<|ε ?_;exact aC<|Γ (afL hC hl _ 0 .q U (by omega) (by rw[e]at hQ;exact hQ)) ⟨rfl,rfl,trivial⟩
  have no:jl s=false->WC C S9 [] h n (sq C Lt (fq [.t k2] Q)):=by intro e;refine ζ<|γ U<|ε (Θ ⟨_,rfl,by rw[e]at hQ;exact hQ⟩)
  by_cases h1:(body s).length=0
  ·refine ξ<|ζ<|γ U<|cH U<|bm U U<|γ U<|μ U (by simp[h1])<|μ U (by simp[h1])<|aS U (by simp[h1]) U<|γ U<|μ U (rfl)<|μ U (rfl)<|μ U (rfl)<|μ U (rfl)<|eI U<|eI U<|eI U<|μ U (rfl)<|aS U (rfl) U<|ε ?_;exact an U U (Γ (no (by simp[jl,h1])) trivial)
  ·by_cases h2:s=[45,48]
   ·refine ξ<|ζ<|γ U<|cH U<|bm U U<|γ U<|κ U (by simp[h1])<|γ U<|κ U (by simp[h1])<|en (b:=[45,48]) U U<|aK U (by simp[h1]) U<|γ U<|μ U (by simp[h2])<|μ U (by simp[h2])<|μ U (by simp[h2])<|μ U (by simp[h2])<|eI U<|eI U<|eI U<|μ U (by simp[h2])<|aS U (by simp[h2]) U<|ε ?_;exact an U U (Γ (no (by simp[jl,h2])) trivial)
   ·by_cases h3:1<(body s).length
    ·have h0:0<(body s).length:=by omega
     have hh:∀(b:S) (h:0<b.length),(b[0].toNat:Int)=(pV b:Nat):=by
      intro b h;cases b with
      | nil=>exact absurd h (by simp)
      | cons c l=>simp[pV]
     have hh:=hh (body s) h0;by_cases h4:pV (body s)=48
     ·refine ξ<|ζ<|γ U<|cH U<|bm U U<|γ U<|κ U (by simp[h1])<|γ U<|κ U (by simp[h1])<|en (b:=[45,48]) U U<|aK U (by simp[h1]) U<|γ U<|κ U (by simp[h2])<|γ U<|κ U (by simp[h2])<|cH U<|κ U (by simp[h2])<|cS U U<|κ U (by simp[h2])<|γ U<|κ U (by simp<;>omega)<|γ U<|κ U (by simp<;>omega)<|lZ U U (h0)<|κ U (by simp<;>omega)<|bm U U<|κ U (by simp[h2])<|aS U (by simp<;>omega) U<|aK U (by simp[h2]) U<|ε ?_;exact an U (by simp[hh,h4]) (Γ (no (by simp[jl,h3,h4])) trivial)
     ·refine ξ<|ζ<|γ U<|cH U<|bm U U<|γ U<|κ U (by simp[h1])<|γ U<|κ U (by simp[h1])<|en (b:=[45,48]) U U<|aK U (by simp[h1]) U<|γ U<|κ U (by simp[h2])<|γ U<|κ U (by simp[h2])<|cH U<|κ U (by simp[h2])<|cS U U<|κ U (by simp[h2])<|γ U<|κ U (by simp<;>omega)<|γ U<|κ U (by simp<;>omega)<|lZ U U (h0)<|κ U (by simp<;>omega)<|bm U U<|κ U (by simp[h2])<|aS U (by simp<;>omega) U<|aK U (by simp[h2]) U<|ε ?_;exact ay U (by simp[hh]<;>omega) (ae (Γ (fin (by simp[jl,h1,h2,h4])) ⟨rfl,trivial⟩))
    ·refine ξ<|ζ<|γ U<|cH U<|bm U U<|γ U<|κ U (by simp[h1])<|γ U<|κ U (by simp[h1])<|en (b:=[45,48]) U U<|aK U (by simp[h1]) U<|γ U<|κ U (by simp[h2])<|γ U<|κ U (by simp[h2])<|cH U<|κ U (by simp[h2])<|cS U U<|κ U (by simp[h2])<|γ U<|μ U (by simp<;>omega)<|μ U (by simp<;>omega)<|μ U (by simp<;>omega)<|κ U (by simp[h2])<|aK U (by simp<;>omega) U<|aK U (by simp[h2]) U<|ε ?_;exact ay U U (ae (Γ (fin (by simp[jl,h1,h2,h3])) ⟨rfl,trivial⟩))
 refine τ.go hC.f223 U ?_;refine ζ<|γ U<|ε ?_;refine ζ<|γ U<|γ U<|ε ?_;cases s with
 | nil=>
  refine ξ<|ζ<|γ U<|cH U<|cS U U<|γ U<|μ U (rfl)<|μ U (rfl)<|μ U (rfl)<|aK U (rfl) U<|ε ?_;exact ay U U (ae (Γ rest ⟨rfl,rfl,trivial⟩))
 | cons c l=>
  refine ξ<|ζ<|γ U<|cH U<|cS U U<|γ U<|κ U (by simp<;>omega)<|γ U<|κ U (by simp<;>omega)<|lZ U U (by simp)<|κ U (by simp<;>omega)<|bm U U<|aS U (by simp<;>omega) U<|ε ?_;refine cB U (λhx=>?_) (λhx=>ae ?_)
  ·simp only[uq,bA]at hx;have hb:body (c::l)=l:=by simp only[body];rw[au (by omega)]
   refine aL<|γ U<|Al U U U (by simp) (by omega)<|γ U<|ε ?_;rw[hb]at rest;exact Γ rest ⟨rfl,by show some (st (List.take _ (List.drop 1 (c::l))))=_;simp,trivial⟩
  ·simp only[uq,cV]at hx;have hb:body (c::l)=c::l:=by simp only[body];rw[Ξ (by omega)]
   rw[hb]at rest;exact Γ rest ⟨rfl,rfl,trivial⟩
theorem Cx(hC:Cd C){s:S}(hlen:s.length<1000000)(hQ:Q (.i .i64 (gu s)) h n):τ C (.f 158 [] []) [st s] h n Q:=by
 refine τ.go hC.f158 U ?_;refine ζ<|γ U<|ε ?_;refine ξ<|ζ<|γ U<|ak U U<|afM hC hlen<|di U<|ε ?_;refine cB U (λhx=>?_) (λhx=>ae ?_)
 ·have hf:jl s=false:=by simpa using hx
  refine ζ<|γ U<|ε (Θ ⟨_,rfl,by simpa[gu,hf]using hQ⟩)
 ·have hf:jl s=true:=by simpa using hx
  have aR:=Mp hf;cases s with
  | nil=>exact absurd rfl aR
  | cons c l=>
   refine ζ<|γ U<|cH U<|γ U<|ε ?_;refine ξ<|ζ<|γ U<|lZ U U (by simp)<|bm U U<|ε ?_;have e:∀m:Int,m=(body (c::l)).length->Q (.i .i64 (if decide (120<m)=true then 4 else 0)) h n:=by
    intro m hm;simp only[gu,hf,if_true]at hQ;by_cases h:120<(body (c::l)).length
    ·rw[au h]at hQ;rw[au (by simp<;>omega)];exact hQ
    ·rw[Ξ h]at hQ;rw[Ξ (by simp<;>omega)];exact hQ
   refine cB U (λhx=>?_) (λhx=>ae ?_)
   ·simp only[uq,bA]at hx;refine aL<|γ U<|iz U U (⟨by simp<;>omega,by simp at hlen ⊢ <;>omega⟩)<|γ U<|ε ?_;refine ζ<|γ U<|cS U U<|ak U U<|qB hC<|γ U<|ε (Θ ⟨_,rfl,e _ (by simp only[body];rw[au (by omega)];simp)⟩)
   ·simp only[uq,cV]at hx;refine ζ<|γ U<|cS U U<|ak U U<|qB hC<|γ U<|ε (Θ ⟨_,rfl,e _ (by simp only[body];rw[Ξ (by omega)])⟩)
end
section
variable {C:Nat->Option bN}{h:Hf}{n:K}{Q:V->Hf->K->Prop}
def AK(s:S):V:=match lF s with | some (p,q)=>.u [st p,st q,.b true] | none=>.u [.s 0 0,.s 0 0,.b false]
theorem ME{s:S}(h:lF s=none):AK s=.u [.s 0 0,.s 0 0,.b false]:=by unfold AK;rw[h]
theorem afN{s:S}(hlen:s.length<1000000):∀(m i:Nat) (at_:Int),s.length - i=m->i<=s.length->((at_ = -1/\ic (s.take i)=false)\/(∃a:Nat,∃ha:a<s.length,at_=(a:Int)/\a<i/\ic (s.take a)=false/\s[a].toNat=47/\ic ((s.take i).drop (a+1))=false))->Q (AK s) h n->WC C Tf [(k0,st s),(k5,.i .i64 at_),(k6,.i .i64 (i:Nat))] h n (blk 0 (sq C Tg (fq [.t k2,.t k3,.t k4] Q))):=by
 intro m
 induction m with
 | zero=>
  intro i at_ hm hi hI hQ;have:i=s.length:=by omega
  subst this;refine aJ ?_;refine ξ<|ζ<|γ U<|γ U<|cH U<|aO U U<|ε ?_;refine ay U (by simp<;>omega)<|bM ?_;refine ξ<|ζ<|γ U<|aO U U<|ε ?_;rcases hI with ⟨rfl,h1⟩ | ⟨a,ha,rfl,h1,h2,h3,h4⟩
  ·refine an U (by simp) ?_;refine ζ<|γ U<|γ U<|γ U<|ε ?_;refine Θ ⟨_,rfl,?_⟩;rw[gM]at h1;rw[ME (by simp[lF,Mq h1])]at hQ;exact hQ
  ·refine ay U (by simp<;>omega)<|ae ?_;have e:lF s=some (s.take a,s.drop (a+1)):=by
    rw[gM]at h4;simp[lF,Mr ha h2 h3,h4]
   have h5:a<=s.length:=by omega
   refine dh<|ao U<|ao U<|EA U U U (by omega) (h5)<|ao U<|ao U<|yo U U ⟨by omega,by omega⟩<|EA U U U (by show a+1<=s.length;omega) (by simp)<|ao U<|ao U<|ao U<|cG (by simp[AG,gP,jW,Nat.testBit]) ?_;refine Θ ⟨_,rfl,?_⟩;unfold AK at hQ;rw[e]at hQ;have e2:List.take (s.length - (a+1)) (List.drop (a+1) s)=s.drop (a+1):=pZ (by simp);show Q (.u [st (List.take (a - 0) (List.drop 0 s)),st (List.take (s.length - (a+1)) (List.drop (a+1) s)),.b true]) h n;rw[e2];exact hQ
 | succ m ih=>
  intro i at_ hm hi hI hQ;have ω:i<s.length:=by omega
  refine aJ ?_;refine ξ<|ζ<|γ U<|γ U<|cH U<|aO U U<|ε ?_;refine an U (by simp<;>omega)<|ae ?_;refine ξ<|aC<|ζ<|γ U<|γ U<|lZ U U (ω)<|bm U U<|ε ?_;refine cB U (λhx=>?_) (λhx=>ae ?_)
  ·simp only[bA]at hx;have hx:s[i].toNat=47:=by omega
   refine ξ<|ζ<|γ U<|fL U U<|ε ?_;rcases hI with ⟨rfl,h1⟩ | ⟨a,ha,rfl,h1,h2,h3,h4⟩
   ·refine ay U (by simp)<|ae ?_;refine aL<|γ U<|γ U<|ε ?_;refine aL<|γ U<|cU U U ⟨by omega,by omega⟩<|γ U<|ε ?_;refine Γ (ih (i+1) (i:Int) (by omega) (by omega) (Or.inr ⟨i,ω,rfl,by omega,h1,hx,?_⟩) hQ) ⟨rfl,rfl,rfl,trivial⟩;rw[re (by simp<;>omega)];rfl
   ·refine an U (by simp<;>omega) ?_;refine ζ<|γ U<|γ U<|γ U<|ε ?_;refine Θ ⟨_,rfl,?_⟩;have e:lF s=none:=by
     have:ic (s.drop (a+1))=true:=by
      have:s.drop (a+1)=(s.drop (a+1)).take (i - (a+1))++s[i]::s.drop (i+1):=by
       have e1:(s.drop (a+1)).drop (i - (a+1))=s[i]::s.drop (i+1):=by rw[List.drop_drop,←fC ω];congr 1;omega
       rw[←e1,Bq]
      rw[this,Vz];simp only[ic,List.any_cons,hx,decide_true,Bool.true_or,Bool.or_true]
     simp[lF,Mr ha h2 h3,this]
    rw[ME e]at hQ;exact hQ
  ·simp only[cV]at hx;have hx:¬ s[i].toNat=47:=by omega
   refine aL<|γ U<|cU U U ⟨by omega,by omega⟩<|γ U<|ε ?_;refine Γ (ih (i+1) at_ ?_ ?_ ?_ hQ) ⟨rfl,rfl,rfl,trivial⟩
   ·clear hI hQ ih;omega
   ·clear hI hQ ih;omega
   rcases hI with ⟨rfl,h1⟩ | ⟨a,ha,rfl,h1,h2,h3,h4⟩
   ·refine Or.inl ⟨rfl,?_⟩;rw[afj ω,h1];simp[hx]
   ·refine Or.inr ⟨a,ha,rfl,by omega,h2,h3,?_⟩;have:(s.take (i+1)).drop (a+1)=(s.take i).drop (a+1)++[s[i]]:=by
     rw[pg ω,List.drop_append_of_le_length (by simp<;>omega)]
    rw[this,Vz,h4];simp[ic,hx]
theorem VP(hC:Cd C){s:S}(hlen:s.length<1000000)(hQ:Q (AK s) h n):τ C (.f 224 [] []) [st s] h n Q:=by refine τ.go hC.f224 U ?_;refine ζ<|γ U<|γ U<|γ U<|ε ?_;refine ζ<|γ U<|ε ?_;refine ξ<|ζ<|γ U<|ε ?_;exact aC<|Γ (afN hlen _ 0 (-1) U (by omega) (Or.inl ⟨rfl,rfl⟩) hQ) ⟨rfl,rfl,rfl,trivial⟩
theorem VQ(hC:Cd C){v:V}{l:List Nat}{i:Nat}(hv:aQ h n .i64 v l)(hlen:l.length<1000000)(hQ:Q (.i .i64 (l.getD i 0:Nat)) h n):τ C (.f 319 [] []) [v,.i .i64 (i:Nat)] h n Q:=by
 refine τ.go hC.f319 U ?_;refine ζ<|γ U<|ε ?_;refine ξ<|ζ<|γ U<|γ U<|az U (hv)<|aO U U<|ε ?_;by_cases hi:i<l.length
 ·refine an U (by simp<;>omega) ?_;have e:l.getD i 0=l[i]:=by rw[fj,fO hi];rfl
  rw[e]at hQ;refine ζ<|γ U<|γ U<|bj U U (hv) (hi)<|ν U (hv.get hi _)<|γ U<|ε (Θ ⟨_,rfl,hQ⟩)
 ·refine ay U (by simp<;>omega)<|ae ?_;have e:l.getD i 0=0:=by rw[fj,xI (by omega)];rfl
  rw[e]at hQ;refine ζ<|γ U<|ε (Θ ⟨_,rfl,hQ⟩)
end
section
variable {C:Nat->Option bN}{h:Hf}{n:K}{Q:V->Hf->K->Prop}
structure Gr(h0:Hf)(n0:K)(h:Hf)(n:K)(e z:Nat)(v:V)(len:Nat)(cs:List V):Prop where
 ext:Ext h0 n0 h n
 own:ig h e z v len cs
 at_:ig.At v n0 n
section
variable {h0 h':Hf}{n0 n':K}{e z len m:Nat}{v v':V}{cs new:List V}
theorem Gr.ns(a:Ext h0 n0 h n):Gr h0 n0 h n e z .ns 0 []:=⟨a,ig.ns h e z,Or.inl U⟩
theorem Gr.lt(a:Gr h0 n0 h n e z v len cs):v=.ns\/v.blk.num<n.num:=a.at_.imp id And.right
theorem Gr.sl(a:Gr h0 n0 h n e z v len cs):φ h n z v len cs:=a.own.sl a.lt
theorem Gr.ge(a:Gr h0 n0 h n e z v len cs):v=.ns\/n0.num<=v.blk.num:=a.at_.imp id And.left
theorem Gr.on(a:Gr h0 n0 h n e z v len cs)(x:Ext h n h' n'):Gr h0 n0 h' n' e z v len cs:=
 ⟨a.ext.trans x,a.own.ext (a.lt.imp id λh=>x.2 _ h),a.at_.imp id λh=>⟨h.1,fk h.2 x.1⟩⟩
theorem Gr.aj{b:K}(a:Gr h0 n0 h n e z v len cs)(x:de b h h')(hb:n0.num<=b.num)(hv:v=.ns\/v.blk.num≠b.num):Gr h0 n0 h' n e z v len cs:=
 ⟨a.ext.aj x hb,a.own.ext (hv.imp id λh=>x _ h),a.at_⟩
theorem Gr.app(a:Gr h0 n0 h n e z v len cs)(ho:ig h' e z v' (len+m) (cs++new))(hb:v'.blk=n)(hn:n'.num=n.num+1)(hs:∀b:K,b.num<n.num->(v=.ns\/b.num≠v.blk.num)->h' b=h b):Gr h0 n0 h' n' e z v' (len+m) (cs++new):=
 ⟨⟨by have:=a.ext.1;omega,λk hk=>by have h1:=a.ext.1;rw[hs k (by omega) (a.ge.imp id λh=>by omega),a.ext.2 k hk]⟩,ho,Or.inr ⟨by rw[hb];exact a.ext.1,by rw[hb];omega⟩⟩
end
theorem Cy{E:Env}{k:K}{v:V}(h1:lk E k=some v)(hc:v.cells=[v])(ho:v.one=true){a b:V}:jh E [a,b] [(1,1,.t k)]=some [a,v]:=by simp only[jh,ge,h1,hc,fH,p9,bE,ho,eK,over];rfl
theorem VR{E:Env}{k k':K}{v w:V}(h1:lk E k=some v)(hc:v.cells=[v])(ho:v.one=true)(nj:lk E k'=some w)(sW:w.cells=[w])(nu:w.one=true){a b:V}:jh E [a,b] [(0,1,.t k),(1,1,.t k')]=some [v,w]:=by simp only[jh,ge,h1,nj,hc,sW,fH,p9,bE,ho,nu,eK,over];rfl
theorem vT{E:Env}{k:K}{v:V}(h1:lk E k=some v)(hc:v.cells=[v])(ho:v.one=true){a:V}:jh E [a] [(0,1,.t k)]=some [v]:=by simp only[jh,ge,h1,hc,fH,p9,bE,ho,eK,over];rfl
theorem aQ.one{k:IntKind}{v:V}{l:List Nat}(a:aQ h n k v l):v.one=true:=φ.one a
theorem aQ.cells{k:IntKind}{v:V}{l:List Nat}(a:aQ h n k v l):v.cells=[v]:=φ.cells a
theorem Cl.qC{b:K}{k:IntKind}{l:List Nat}{e len:Nat}(a:Cl h n b (nC k l) e)(hl:l.length=len):aQ h n k (.sl b 0 len len) l:=by subst hl;exact φ.whole a.1 a.2 (by simp[K6])
theorem aQ.zQ{k:IntKind}{v:V}{l:List Nat}(a:aQ h n k v l):v=.ns\/v.blk.num<n.num:=φ.vJ a
theorem VS{l:List Nat}{m:Nat}(hm:m<l.length)(h0:l[m]=0):dd (l.take (m+1))=dd (l.take m):=by rw[pg hm,h0,afg]
theorem VT{l:List Nat}{m:Nat}(hm:m<l.length)(h0:l[m]≠0):dd (l.take (m+1))=l.take (m+1):=by rw[pg hm,afh _ h0]
theorem afO{sl:V}{neg:Bool}{l:List Nat}{b1 b2:K}(hlen:l.length<1000000)(hv:aQ h n .i64 sl l)(c1:Cl h n b1 [.b neg,sl] 281){Q1:Ex->Env->Hf->K->Prop}:
 ∀(m:Nat),m<=l.length->dd l=dd (l.take m)->(∀m' E',m'<=l.length->dd l=l.take m'->dK [(k1,.p b1 0),(k2,.p b2 0),(k3,.i .i64 (m':Nat))] E'->Q1 .normal E' h n)->WC C Tk [(k1,.p b1 0),(k2,.p b2 0),(k3,.i .i64 (m:Nat))] h n (blk 0 Q1):=by
 intro m
 induction m with
 | zero=>
  intro hm hs hQ;refine aJ ?_;refine ξ<|ζ<|γ U<|cS U U<|γ U<|μ U (by simp)<|μ U (by simp)<|μ U (by simp)<|μ U (by simp)<|μ U (by simp)<|μ U (by simp)<|μ U (by simp)<|aK U (by simp) U<|ε ?_;refine ay U U<|bM (hQ 0 _ hm (by simpa[dd]using hs) ⟨rfl,rfl,rfl,trivial⟩)
 | succ m ih=>
  intro hm hs hQ;have ω:m<l.length:=by omega
  have e:((m+1:Nat):Int) - 1=(m:Nat):=by omega
  have hg:=hv.get ω 1;refine aJ ?_;refine ξ<|ζ<|γ U<|cS U U<|γ U<|κ U (by simp<;>omega)<|ρ U<|κ U (by simp<;>omega)<|ν U (c1.ld U _)<|κ U (by simp<;>omega)<|γ U<|κ U (by simp<;>omega)<|mO U U (e) ⟨by omega,by omega⟩<|κ U (by simp<;>omega)<|bj U U (hv) (ω)<|κ U (by simp<;>omega)<|ν U (hg)<|κ U (by simp<;>omega)<|bm U U<|aS U (by simp<;>omega) U<|ε ?_;refine cB U (λhx=>?_) (λhx=>?_)
  ·simp only[bA]at hx;refine ae ?_;refine aC<|aL<|γ U<|mO U U (e) ⟨by omega,by omega⟩<|γ U<|ε ?_;exact Γ (ih (by omega) (by rw[hs,VS ω (by omega)]) hQ) ⟨rfl,rfl,rfl,trivial⟩
  ·simp only[cV]at hx;exact bM (hQ (m+1) _ hm (by rw[hs,VT ω (by omega)]) ⟨rfl,rfl,rfl,trivial⟩)
theorem VU{a b:V}{o:Nat}(h:o=0+1){v:V}(hc:v.cells=[v])(ho:v.one=true):nh [a,b] 0 o 1 v=some [a,v]:=by subst h;simp only[nh,hc,bE,ho,fH,p9,eK,over];rfl
theorem Ix{a b:V}{v:V}(hc:v.cells=[v])(ho:v.one=true):nh [a,b] 0 (0+0) 1 v=some [v,b]:=by simp only[nh,hc,bE,ho,fH,p9,eK,over];rfl
theorem rQ{a b c d:V}(ho:bE [c,d]=true):nh [a,b] 0 0 2 (.a [c,d])=some [c,d]:=dW rfl rfl ho
theorem yI(hC:Cd C){sl:V}{neg:Bool}{l:List Nat}(hlen:l.length<1000000)(hv:aQ h n .i64 sl l)
 (hQ:∀Cz v' h' n',Ext h n h' n'->aQ h' n .i64 v' (dd l)->v'.blk=sl.blk/\(sl=.ns->v'=.ns)/\(neg=false->Cz=false)->Q (.a [.b Cz,v']) h' n'):τ C (.f 269 [] []) [.a [.b neg,sl]] h n Q:=by
 refine τ.go hC.f269 U ?_;have h1:=hv.one;refine ζ<|et U (rfl) (jx rfl h1) <| λh1 n1 dS a1 e1=>du <| λh2 n2 iL a2 e2=>ε ?_;have c1:Cl h2 n2 n [.b neg,sl] 281:=Cl.ext ⟨by omega,a1⟩ e2;have c2:Cl h2 n2 n1 [.b false,.ns] 281:=⟨by omega,a2⟩;have iU:=e1.trans e2;have lM:aQ h2 n .i64 sl l:=hv.at_ iU;refine ζ<|ρ U<|ν U (c1.ld U _)<|az U (lM)<|γ U<|ε ?_;refine ξ<|aC<|Γ (afO (b2:=n1) hlen (lM.up iU.1) c1 _ (χ _) (by rw[gM]) ?_) ⟨rfl,rfl,rfl,trivial⟩;intro m E' hm hs hE;refine dQ hE ?_;have fin:∀Cz v' h',de n h2 h'->Cl h' n2 n [.b Cz,v'] 281->aQ h' n .i64 v' (dd l)->v'.blk=sl.blk/\(sl=.ns->v'=.ns)/\(neg=false->Cz=false)->WC C Tl [(k1,.p n 0),(k2,.p n1 0)] h' n2 (fq [.cell k2 true 2] Q):=by intro Cz v' h' b' c' i' tP;have h1:=i'.one;have d2:=c2.aj b' (by omega);have e3:Ext h n h' n2:=iU.aj b' (by omega);refine ζ<|ν U (bQ c'.2 rfl)<|bL U U (d2.2) (rQ (jx rfl h1)) <| λh4 a4 b4=>ε ?_;refine Θ ⟨_,iO rfl (bQ a4 rfl),?_⟩;exact hQ _ _ _ _ (e3.aj b4 (by omega)) (i'.EB b4 (by omega)) tP
 refine ζ<|ρ U<|ν U (c1.ld U _)<|γ U<|K3 U (lM) U U (by omega) (hm) <| λv3 i3 l3=>ρ U<|bL U U (c1.2) (VU rfl (φ.cells i3) (φ.one i3)) <| λh4 a4 b4=>ε ?_;have i4:aQ h4 n .i64 v3 (dd l):=by have:=(aQ.sub i3 hm).EB b4 (χ _);rw[jr,qb,←hs]at this;exact this
 have c4:Cl h4 n2 n [.b neg,v3] 281:=⟨c1.1,a4⟩;refine ξ<|ζ<|γ U<|bm U U<|ε ?_;refine cB U (λhx=>?_) (λhx=>ae ?_)
 ·refine aL<|ρ U<|bL U U (a4) (Ix rfl rfl) <| λh5 a5 b5=>ε ?_;exact Γ (fin false v3 h5 (λk hk=>by rw[b5 k hk,b4 k hk]) ⟨c1.1,a5⟩ (i4.EB b5 (χ _)) ⟨l3.2.1,l3.2.2,λ_=>rfl⟩) ⟨rfl,rfl,trivial⟩
 ·exact Γ (fin neg v3 h4 b4 c4 i4 ⟨l3.2.1,l3.2.2,id⟩) ⟨rfl,rfl,trivial⟩
end
section
variable {C:Nat->Option bN}{h:Hf}{n:K}{Q:V->Hf->K->Prop}
theorem jm{l:List Nat}{i:Nat}(hi:i<l.length):l.getD i 0=l[i]:=by rw[fj,fO hi];rfl
theorem AL{m:Made}{p:PR}{b:PB}(h1:p.val (ji b.h p.Δ m))(h2:p.val (ji b.h' p.Δ m)):jW m p b:=by
 unfold jW;cases (Nat.testBit p.Δ b.i||Nat.testBit b.Δ p.i)
 ·exact⟨h1,h2⟩
 ·trivial
theorem dj{m:Made}{i Δ i' afP sz:Nat}{agg:Bool}{p v:V}{H H':Hf}(h1:aX (ji H Δ m) agg sz p=some v)(h2:aX (ji H' Δ m) agg sz p=some v):jW m ⟨i,Δ,λg=>aX g agg sz p=some v⟩ ⟨i',afP,H,H'⟩:=AL h1 h2
theorem Ω{m:Made}{p:PR}{b:PB}(h:(Nat.testBit p.Δ b.i||Nat.testBit b.Δ p.i)=true):jW m p b:=by unfold jW;rw[h];trivial
theorem afQ(hC:Cd C){va vb:V}{a b:List Nat}{h0:Hf}{n0:K}(fG:a.length<1000)(gp:b.length<1000)(ha:Sm 10000 a)(hb:Sm 10000 b)(ia:aQ h0 n0 .i64 va a)(ib:aQ h0 n0 .i64 vb b){Q1:Ex->Env->Hf->K->Prop}:
 ∀(m i:Nat) (out:List Nat) (bo:Nat) (vo:V) (h:Hf) (n:K),a.length - i=m->i<=a.length->out.length=i->Sm 10000 out->bo<=1->val 10000 out+val 10000 (b.take i)=val 10000 (a.take i)+bo*10000 ^ i->Gr h0 n0 h n 3 1 vo out.length (nC .i64 out)->(∀(out:List Nat) (bo:Nat) (vo:V) (h:Hf) (n:K) E',out.length=a.length->Sm 10000 out->bo<=1->val 10000 out+val 10000 (b.take a.length)=val 10000 a+bo*10000 ^ a.length->Gr h0 n0 h n 3 1 vo out.length (nC .i64 out)->dK [(k5,vo)] E'->Q1 .normal E' h n)->WC C TA [(k0,va),(k1,vb),(k5,vo),(k6,.i .i64 (bo:Nat)),(k7,.i .i64 (i:Nat))] h n (blk 0 Q1):=by
 intro m
 induction m with
 | zero=>
  intro i out bo vo h n hm hi ho hs Dc hv hg hQ;have e:i=a.length:=by omega
  refine aJ ?_;refine ξ<|ζ<|γ U<|γ U<|az U (ia)<|aO U U<|ε ?_;refine ay U (by simp<;>omega)<|bM ?_;subst e;rw[gM]at hv;exact hQ out bo vo h n _ (by omega) hs Dc hv hg ⟨rfl,trivial⟩
 | succ m ih=>
  intro i out bo vo h n hm hi ho hs Dc hv hg hQ;have ω:i<a.length:=by omega
  have oP:=ia.at_ hg.ext;have pc:=ib.at_ hg.ext;have q1:a[i]<10000:=ha.get ω;have q2:=hb.getD (by decide) i;have zj:=oP.get ω 1;have t1:=vS (B:=10000) a i;have t2:=vS (B:=10000) b i;rw[jm ω]at t1;refine aJ ?_;refine ξ<|ζ<|γ U<|γ U<|az U (ia)<|aO U U<|ε ?_;refine an U (by simp<;>omega)<|ae ?_;generalize Gi:b.getD i 0=bd at*;generalize MF:a[i]=ad at*;have tz:∀{Q:V->Hf->K->Prop},Q (.i .i64 (bd:Nat)) h n->τ C (.f 319 [] []) [vb,.i .i64 (i:Nat)] h n Q:=λhQ=>VQ hC (pc.up hg.ext.1) (by omega) (by rw[Gi];exact hQ);refine ξ<|aC<|dh<|ao U<|ao U<|cX U U (oP) (ω)<|aD U (zj) U (by simp[cT,hJ,dD,jG])<|ao U<|ao U<|cj U U<|tz<|Ci U U ⟨by omega,by omega⟩<|ao U<|Ci U U ⟨by omega,by omega⟩<|ao U<|cG (⟨⟨AL zj zj,trivial⟩,trivial⟩) ?_;refine ζ<|γ U<|ε ?_;refine ξ<|ζ<|γ U<|aO U U<|ε ?_;have fin:∀(d Fi:Nat),d<10000->Fi<=1->((d:Int)=(ad:Int) - (bd:Int) - (bo:Int)+Fi*10000)->WC C Tv [(k5,vo),(k8,.i .i64 (d:Nat)),(k0,va),(k1,vb),(k6,.i .i64 (Fi:Nat)),(k7,.i .i64 (i:Nat))] h n (blk 1 (sq C Tw (sq C (.loop Tz) (blk 0 Q1)))):=by
   intro d Fi hd afR he;refine aL<|γ U<|γ U<|lu (rfl) <| λh1 n1 dS a1 e1=>yr U ((hg.on e1).own) U (φ.whole (len:=1) (by omega) a1 rfl) (by omega) (by omega) (by omega) (by omega) U ((hg.on e1).lt) <| λv2 h2 n2 sy fM iL kz=>γ U<|ε ?_;have g2:=(hg.on e1).app sy fM iL kz;have e2:nC .i64 out++[V.i .i64 (d:Nat)]=nC .i64 (out++[d]):=by rw[K7];rfl
   rw[e2]at g2;refine aL<|γ U<|cU U U ⟨by omega,by omega⟩<|γ U<|ε ?_;refine Γ (ih (i+1) (out++[d]) Fi v2 h2 n2 (by omega) (by omega) (by simp[ho]) ?_ afR ?_ (by rw[oi];exact g2) hQ) ⟨rfl,rfl,rfl,rfl,rfl,trivial⟩
   ·intro x hx;rcases xP.1 hx with hx | hx
    ·exact hs x hx
    ·simp at hx;rw[hx];exact hd
   ·rw[yG,t1,t2,ho];simp only[val,kE,kF];have CZ:d+bd+bo=ad+Fi*10000:=by omega
    have e3:10000 ^ i*d+10000 ^ i*bd+10000 ^ i*bo=10000 ^ i*ad+Fi*10000 ^ (i+1):=by rw[←gl,←gl,CZ,gl,gI];congr 1;rw[dP Fi 10000,←iE,dP]
    have e4:bo*10000 ^ i=10000 ^ i*bo:=dP _ _;omega
  refine cB U (λhx=>?_) (λhx=>?_)
  ·simp only[bA]at hx;obtain⟨d,hd⟩:∃d:Nat,(d:Int)=(ad:Int) - (bd:Int) - (bo:Int)+10000:=⟨((ad:Int) - (bd:Int) - (bo:Int)+10000).toNat,by omega⟩;refine ζ<|γ U<|lz U U (hd.symm) ⟨by omega,by omega⟩<|γ U<|ε ?_;refine aL<|γ U<|ε ?_;exact Γ (fin d 1 (by omega) (by omega) (by omega)) ⟨rfl,rfl,rfl,rfl,rfl,rfl,trivial⟩
  ·simp only[cV]at hx;obtain⟨d,hd⟩:∃d:Nat,(d:Int)=(ad:Int) - (bd:Int) - (bo:Int):=⟨((ad:Int) - (bd:Int) - (bo:Int)).toNat,by omega⟩;refine ae ?_;rw[←hd];exact Γ (fin d 0 (by omega) (by omega) (by omega)) ⟨rfl,rfl,rfl,rfl,rfl,rfl,trivial⟩
theorem afS(hC:Cd C){va vb:V}{a b:List Nat}(fG:a.length<1000)(gp:b.length<1000)(ha:Sm 10000 a)(hb:eA 10000 b)(ia:aQ h n .i64 va a)(ib:aQ h n .i64 vb b)(hle:val 10000 b<=val 10000 a)
 (hQ:∀v' l' h' n',Ext h n h' n'->aQ h' n' .i64 v' l'->eA 10000 l'->val 10000 l'=val 10000 a - val 10000 b->(v'=.ns\/n.num<=v'.blk.num)->Q v' h' n'):τ C (.f 300 [] []) [va,vb] h n Q:=by
 refine τ.go hC.f300 U ?_;refine ζ<|γ U<|ε ?_;refine ζ<|γ U<|ε ?_;refine ζ<|γ U<|ε ?_;refine ξ<|ζ<|γ U<|ε ?_;refine aC<|Γ (afQ hC fG gp ha hb.1 ia ib _ 0 [] 0 .ns h n rfl (by omega) U Sm.nil (by omega) (by simp[val]) (Gr.ns (Ext.refl h n)) ?_) ⟨rfl,rfl,rfl,rfl,rfl,trivial⟩;intro out bo vo h1 n1 E' hl hs Dc hv hg hE;refine dQ hE ?_;have hK:b.length<=a.length:=pH hb.2 ha (by omega) hle;rw[pZ hK]at hv;have h2:=pF hs;rw[hl]at h2;have afT:bo=0:=by
  rcases jC 0 bo with h | h
  ·have:bo=1:=by omega
   subst this;omega
  ·omega
 subst afT;have hn:aQ h1 n1 .i64 vo out:=hg.sl;refine ζ<|γ U<|mc (Cy rfl hn.cells hn.one)<|ak U U<|yI hC (by omega) hn <| λng v2 h2 n2 e2 i2 k2=>yq U U<|γ U<|ε ?_;refine Θ ⟨_,rfl,hQ v2 (dd out) h2 n2 (hg.ext.trans e2) (i2.up e2.1) (rM hs) (by rw[pG];omega) (hg.ge.imp k2.2.1 λh=>by rw[k2.1];exact h)⟩
end
section
variable {C:Nat->Option bN}{h:Hf}{n:K}{Q:V->Hf->K->Prop}
theorem afU{va vb:V}{a b:List Nat}(fG:a.length<1000)(hl:a.length=b.length)(ha:Sm 10000 a)(hb:Sm 10000 b)(ia:aQ h n .i64 va a)(ib:aQ h n .i64 vb b)(hQ:Q (.i .i64 (gr (val 10000 a) (val 10000 b))) h n):
 ∀(m:Nat),m<=a.length->a.drop m=b.drop m->WC C Tp [(k0,va),(k1,vb),(k5,.i .i64 ((m:Int) - 1))] h n (blk 0 (sq C Tq (fq [.t k4] Q))):=by
 intro m
 induction m with
 | zero=>
  intro hm hd;have:a=b:=by simpa using hd
  subst this;refine aJ ?_;refine ξ<|ζ<|γ U<|fL U U<|ε ?_;refine ay U (by simp<;>omega)<|bM ?_;refine ζ<|γ U<|ε (Θ ⟨_,rfl,by rw[Vw]at hQ;exact hQ⟩)
 | succ m ih=>
  intro hm hd;have ω:m<a.length:=by omega
  have cZ:m<b.length:=by omega
  have e:((m+1:Nat):Int) - 1=(m:Nat):=by omega
  rw[e];have g1:=ia.get ω 1;have g2:=ib.get cZ 1;refine aJ ?_;refine ξ<|ζ<|γ U<|fL U U<|ε ?_;refine an U (by simp<;>omega)<|ae ?_;refine ξ<|aC<|ξ<|dh<|ao U<|ao U<|cX U U (ia) (ω)<|aD U (g1) U (by simp[cT,hJ,dD,jG])<|ao U<|ao U<|cX U U (ib) (cZ)<|aD U (g2) U (by simp[cT,hJ,dD,jG])<|KY U U<|cG (by simp[AG,gP,jW,Nat.testBit]) ?_;by_cases aR:a[m]=b[m]
  ·refine ay U (by simp<;>omega)<|ae ?_;refine dh<|ao U<|ao U<|cX U U (ia) (ω)<|aD U (g1) U (by simp[cT,hJ,dD,jG])<|ao U<|ao U<|cX U U (ib) (cZ)<|aD U (g2) U (by simp[cT,hJ,dD,jG])<|wQ U U<|cG (by simp[AG,gP,jW,Nat.testBit]) ?_;refine ay U (by simp<;>omega)<|ae ?_;refine aL<|γ U<|iz U U ⟨by omega,by omega⟩<|γ U<|ε ?_;refine Γ (ih (by omega) ?_) ⟨rfl,rfl,rfl,trivial⟩;rw[fC ω,fC cZ,hd,aR]
  ·rw[Vv ha hb hl ω hd aR]at hQ;by_cases h1:a[m]<b[m]
   ·refine an U (by simp<;>omega) ?_;refine ζ<|γ U<|ε (Θ ⟨_,rfl,by simpa[gr,h1]using hQ⟩)
   ·refine ay U (by simp<;>omega)<|ae ?_;refine dh<|ao U<|ao U<|cX U U (ia) (ω)<|aD U (g1) U (by simp[cT,hJ,dD,jG])<|ao U<|ao U<|cX U U (ib) (cZ)<|aD U (g2) U (by simp[cT,hJ,dD,jG])<|wQ U U<|cG (by simp[AG,gP,jW,Nat.testBit]) ?_;refine an U (by simp<;>omega) ?_;refine ζ<|γ U<|ε (Θ ⟨_,rfl,by simpa[gr,h1,show b[m]<a[m] by omega]using hQ⟩)
theorem VV(hC:Cd C){va vb:V}{a b:List Nat}(fG:a.length<1000)(gp:b.length<1000)(ha:eA 10000 a)(hb:eA 10000 b)(ia:aQ h n .i64 va a)(ib:aQ h n .i64 vb b)(hQ:Q (.i .i64 (gr (val 10000 a) (val 10000 b))) h n):τ C (.f 317 [] []) [va,vb] h n Q:=by
 refine τ.go hC.f317 U ?_;refine ζ<|γ U<|ε ?_;refine ξ<|ζ<|γ U<|az U (ia)<|γ U<|az U (ib)<|dE U U<|ε ?_;by_cases hl:a.length=b.length
 ·refine ay U (by simp[hl])<|ae ?_;refine ξ<|ζ<|γ U<|az U (ia)<|iz U U ⟨by omega,by omega⟩<|γ U<|ε ?_;exact aC<|Γ (afU fG hl ha.1 hb.1 ia ib hQ a.length (χ _) (by rw[gY,hl,gY])) ⟨rfl,rfl,rfl,trivial⟩
 ·rw[Vu ha hb (by omega) hl]at hQ;refine an U (by simp<;>omega) ?_;refine ξ<|ζ<|γ U<|az U (ia)<|γ U<|az U (ib)<|aO U U<|ε ?_;by_cases h1:a.length<b.length
  ·refine an U (by simp<;>omega) ?_;refine ζ<|γ U<|ε (Θ ⟨_,rfl,by simpa[gr,h1]using hQ⟩)
  ·refine ay U (by simp<;>omega)<|ae ?_;refine ζ<|γ U<|ε (Θ ⟨_,rfl,by simpa[gr,h1,show b.length<a.length by omega]using hQ⟩)
structure Pr(h0:Hf)(n0:K)(h:Hf)(n:K)(b2 b3 bo:K)(na nb:Bool)(va vb:V)(L:Nat)(out:List Nat):Prop where
 ext:Ext h0 n0 h n
 c2:Cl h n b2 [.b na,va] 281
 c3:Cl h n b3 [.b nb,vb] 281
 co:Cl h n bo (nC .i64 out) 3
 lo:n0.num<=bo.num
 ne2:b2.num≠bo.num
 Dd:b3.num≠bo.num
 len:out.length=L
 sm:Sm 10000 out
theorem Pr.set{h0:Hf}{n0:K}{b2 b3 bo:K}{na nb:Bool}{va vb:V}{L:Nat}{out:List Nat}(p:Pr h0 n0 h n b2 b3 bo na nb va vb L out){i x:Nat}{h':Hf}(hx:x<10000)(a:h' bo=some (.c (nC .i64 (out.set i x)) 3 0))(b:de bo h h'):Pr h0 n0 h' n b2 b3 bo na nb va vb L (out.set i x):=
 ⟨p.ext.aj b p.lo,p.c2.aj b p.ne2,p.c3.aj b p.Dd,⟨p.co.1,a⟩,p.lo,p.ne2,p.Dd,by rw[mD];exact p.len,p.sm.set hx⟩
theorem yJ{l:List Nat}{i j x:Nat}:(l.set i x).getD j 0=if i=j/\i<l.length then x else l.getD j 0:=by
 rw[fj,fj,List.getElem?_set];by_cases h:i=j
 ·subst h;by_cases h2:i<l.length
  ·simp[h2]
  ·simp[h2,xI (show l.length<=i by omega)]
 ·simp[h]
section
variable {h0:Hf}{n0 b2 b3 bo:K}{na nb:Bool}{va vb x4:V}{a b:List Nat}
theorem VW(hC:Cd C)(fG:a.length<1000)(gp:b.length<1000)(ha:Sm 10000 a)(hb:Sm 10000 b)(ia:aQ h0 n0 .i64 va a)(ib:aQ h0 n0 .i64 vb b){i:Nat}(hi:i<a.length){out:List Nat}{carry j:Nat}
 (p:Pr h0 n0 h n b2 b3 bo na nb va vb (a.length+b.length+1) out)(hc:carry<10000)(hj:j<=b.length){Q1:Ex->Env->Hf->K->Prop}
 (hQ:∀h' E',Pr h0 n0 h' n b2 b3 bo na nb va vb (a.length+b.length+1) (out.set (i+j) ((out.getD (i+j) 0+a[i]*b.getD j 0+carry) % 10000))->dK [(k2,.p b2 0),(k3,.p b3 0),(k4,x4),(k5,.sl bo 0 (a.length+b.length+1) (a.length+b.length+1)),(k6,.i .i64 (i:Nat)),(k7,.i .i64 ((out.getD (i+j) 0+a[i]*b.getD j 0+carry) / 10000:Nat)),(k8,.i .i64 (j:Nat))] E'->Q1 .normal E' h' n):
 WC C Ts [(k2,.p b2 0),(k3,.p b3 0),(k4,x4),(k5,.sl bo 0 (a.length+b.length+1) (a.length+b.length+1)),(k6,.i .i64 (i:Nat)),(k7,.i .i64 (carry:Nat)),(k8,.i .i64 (j:Nat))] h n Q1:=by
 have io:aQ h n .i64 (.sl bo 0 (a.length+b.length+1) (a.length+b.length+1)) out:=p.co.qC p.len;have tM:i+j<a.length+b.length+1:=by omega
 have pI:i+j<out.length:=by rw[p.len];exact tM
 have go:=io.get pI 1;have oP:=ia.at_ p.ext;have ga:=oP.get hi 1;have pc:=(ib.at_ p.ext).up p.ext.1;have q1:out[i+j]<10000:=p.sm.get pI;have q2:a[i]<10000:=ha.get hi;have q3:b.getD j 0<10000:=hb.getD (by omega) j;rw[jm pI]at hQ;have tz:∀{Q:V->Hf->K->Prop},Q (.i .i64 (b.getD j 0:Nat)) h n->τ C (.f 319 [] []) [vb,.i .i64 (j:Nat)] h n Q:=λhQ=>VQ hC pc (by omega) hQ;generalize C1:out[i+j]=od at*;generalize MF:a[i]=ad at*;generalize Gi:b.getD j 0=bd at*;have hmul:ad*bd<=9999*9999:=xQ (by omega) (by omega);have e1:(ad:Int)*(bd:Int)=(ad*bd:Nat):=by simp
 have Yu:aX h false 1 (.p b2 (0+1))=some va:=p.c2.ld U _;have Yv:aX h false 1 (.p b3 (0+1))=some vb:=p.c3.ld U _;have ba:bB n va=true:=oP.up p.ext.1 |>.below (χ _);have bb:bB n vb=true:=pc.below (χ _);refine dh<|ao U<|ao U<|ao U<|ED U U (rfl) ⟨by omega,by omega⟩<|cX U U (io) (pI)<|aD U (go) U (by simp[cT,hJ,dD,jG])<|bX U<|aD U (Yu) (ba) (φ.da oP)<|ao U<|cX U U (oP) (hi)<|aD U (ga) U (by simp[cT,hJ,dD,jG])<|bX U<|aD U (Yv) (bb) (φ.da pc)<|ao U<|cj U U<|tz<|Ap U U (e1) ⟨by omega,by omega⟩<|yo U U ⟨by omega,by omega⟩<|ao U<|yo U U ⟨by omega,by omega⟩<|ao U<|cG (⟨⟨AL Yv Yv,trivial⟩,⟨⟨AL ga ga,trivial⟩,⟨⟨AL Yu Yu,trivial⟩,⟨⟨AL go go,trivial⟩,trivial⟩⟩⟩⟩) ?_;have e2:(od:Int)+(ad*bd:Nat)+(carry:Int)=((od+ad*bd+carry:Nat):Int):=by omega
 rw[e2];generalize hx:od+ad*bd+carry=x at*;refine ζ<|γ U<|γ U<|γ U<|lz U U (rfl) ⟨by omega,by omega⟩<|γ U<|HL (b:=10000) U U (by omega)<|bj U U (io) (pI)<|bL U U (p.co.2) (yt pI _ (by simp[V.off])) <| λh1 a1 b1=>ε ?_;refine aL<|γ U<|Ez (b:=10000) U U (by omega) ⟨by omega,by omega⟩<|γ U<|ε ?_;exact hQ h1 _ (p.set (lS _ (by omega)) a1 b1) ⟨rfl,rfl,rfl,rfl,rfl,rfl,rfl,trivial⟩
theorem afW(hC:Cd C)(fG:a.length<1000)(gp:b.length<1000)(ha:Sm 10000 a)(hb:Sm 10000 b)(ia:aQ h0 n0 .i64 va a)(ib:aQ h0 n0 .i64 vb b){i:Nat}(hi:i<a.length)(V0:Nat){Q1:Ex->Env->Hf->K->Prop}
 (hQ:∀out h' E',Pr h0 n0 h' n b2 b3 bo na nb va vb (a.length+b.length+1) out->val 10000 out=V0+a[i]*val 10000 b*10000 ^ i->(∀k,i+1+b.length<=k->out.getD k 0=0)->dK [(k2,.p b2 0),(k3,.p b3 0),(k4,x4),(k5,.sl bo 0 (a.length+b.length+1) (a.length+b.length+1)),(k6,.i .i64 (i:Nat))] E'->Q1 .normal E' h' n):
 ∀(m j:Nat) (out:List Nat) (carry:Nat) (h:Hf),b.length - j=m->j<=b.length->Pr h0 n0 h n b2 b3 bo na nb va vb (a.length+b.length+1) out->carry<10000->val 10000 out+carry*10000 ^ (i+j)=V0+a[i]*val 10000 (b.take j)*10000 ^ i->(∀k,i+b.length<=k->out.getD k 0=0)->WC C Tt [(k2,.p b2 0),(k3,.p b3 0),(k4,x4),(k5,.sl bo 0 (a.length+b.length+1) (a.length+b.length+1)),(k6,.i .i64 (i:Nat)),(k7,.i .i64 (carry:Nat)),(k8,.i .i64 (j:Nat))] h n (blk 2 Q1):=by
 intro m
 induction m with
 | zero=>
  intro j out carry h hm hj p hc hv hz;have ej:j=b.length:=by omega
  subst ej;have pc:=ib.at_ p.ext;rw[gM]at hv;refine aJ ?_;by_cases h0:carry=0
  ·subst h0;refine ξ<|ζ<|γ U<|ρ U<|ν U (p.c3.ld U _)<|az U (pc)<|aO U U<|γ U<|κ U (by simp)<|γ U<|κ U (by simp)<|cS U U<|aK U (by simp) U<|ε ?_;refine ay U U<|bM (hQ out h _ p (by omega) (λk hk=>hz k (by omega)) ⟨rfl,rfl,rfl,rfl,rfl,trivial⟩)
  ·refine ξ<|ζ<|γ U<|ρ U<|ν U (p.c3.ld U _)<|az U (pc)<|aO U U<|γ U<|κ U (by simp)<|γ U<|κ U (by simp)<|cS U U<|aK U (by simp) U<|ε ?_;refine an U (by simp<;>omega)<|ae<|ξ<|aC ?_;have z1:=hz (i+b.length) (by omega);have z2:b.getD b.length 0=0:=by simp
   have oK:i+b.length<out.length:=by rw[p.len];omega
   refine Γ (VW hC fG gp ha hb ia ib hi p hc (χ _) ?_) ⟨rfl,rfl,rfl,rfl,rfl,rfl,rfl,trivial⟩;intro h1 E1 p1 s1;simp only[z1,z2,kE,iI,zC hc]at p1;simp only[z1,z2,kE,iI,Nat.div_eq_of_lt hc]at s1;refine dQ s1 ?_;refine aL<|γ U<|cU U U ⟨by omega,by omega⟩<|γ U<|ε ?_;refine aJ ?_;have ib1:=ib.at_ p1.ext;refine ξ<|ζ<|γ U<|ρ U<|ν U (p1.c3.ld U _)<|az U (ib1)<|aO U U<|γ U<|κ U (by simp<;>omega)<|γ U<|κ U (by simp<;>omega)<|cS U U<|aK U (by simp<;>omega) U<|ε ?_;have vs:=Io (B:=10000) out oK carry;have e0:out[i+b.length]=0:=by rw[←jm oK];exact z1
   rw[e0,kE,kF,dP (10000 ^ (i+b.length))]at vs;refine ay U U<|bM (hQ _ h1 _ p1 (by rw[vs];exact hv) (λk hk=>?_) ⟨rfl,rfl,rfl,rfl,rfl,trivial⟩);rw[yJ,Ξ (by omega)];exact hz k (by omega)
 | succ m ih=>
  intro j out carry h hm hj p hc hv hz;have ω:j<b.length:=by omega
  have pc:=ib.at_ p.ext;have oK:i+j<out.length:=by rw[p.len];omega
  refine aJ ?_;refine ξ<|ζ<|γ U<|ρ U<|ν U (p.c3.ld U _)<|az U (pc)<|aO U U<|γ U<|μ U (by simp<;>omega)<|μ U (by simp<;>omega)<|aS U (by simp<;>omega) U<|ε ?_;refine an U U<|ae<|ξ<|aC ?_;refine Γ (VW hC fG gp ha hb ia ib hi p hc hj ?_) ⟨rfl,rfl,rfl,rfl,rfl,rfl,rfl,trivial⟩;intro h1 E1 p1 s1;refine dQ s1 ?_;have q1:out[i+j]<10000:=p.sm.get oK;have q2:a[i]<10000:=ha.get hi;have q3:b.getD j 0<10000:=hb.getD (by omega) j;have t1:=vS (B:=10000) b j;rw[jm oK]at p1 s1 ⊢;have vs:=Io (B:=10000) out oK ((out[i+j]+a[i]*b.getD j 0+carry) % 10000);generalize C1:out[i+j]=od at*;generalize MF:a[i]=ad at*;generalize Gi:b.getD j 0=bd at*;have hmul:ad*bd<=9999*9999:=xQ (by omega) (by omega);refine aL<|γ U<|cU U U ⟨by omega,by omega⟩<|γ U<|ε ?_;refine Γ (ih (j+1) _ _ h1 (by omega) (by omega) p1 (by omega) ?_ (λk hk=>?_)) ⟨rfl,rfl,rfl,rfl,rfl,rfl,rfl,trivial⟩
  ·have dm:=xO (od+ad*bd+carry) 10000;generalize (od+ad*bd+carry) / 10000=qx at*;generalize (od+ad*bd+carry) % 10000=rx at*;rw[t1];have e1:10000 ^ (i+j)*od+10000 ^ (i+j)*(ad*bd)+10000 ^ (i+j)*carry=10000 ^ (i+j)*rx+10000 ^ (i+j)*(10000*qx):=by
    rw[←gl,←gl,←gl];congr 1;omega
   have e2:qx*10000 ^ (i+(j+1))=10000 ^ (i+j)*(10000*qx):=by rw[←mE,gI,dP,iE]
   have e3:ad*(val 10000 (List.take j b)+10000 ^ j*bd)*10000 ^ i=ad*val 10000 (List.take j b)*10000 ^ i+10000 ^ (i+j)*(ad*bd):=by rw[gl,iJ];congr 1;rw[Nat.pow_add];simp only[dP,Nat.mul_left_comm,iE]
   have e4:carry*10000 ^ (i+j)=10000 ^ (i+j)*carry:=dP _ _;rw[e3];omega
  ·rw[yJ,Ξ (by omega)];exact hz k hk
theorem afX(hC:Cd C)(fG:a.length<1000)(gp:b.length<1000)(ha:Sm 10000 a)(hb:Sm 10000 b)(ia:aQ h0 n0 .i64 va a)(ib:aQ h0 n0 .i64 vb b){Q1:Ex->Env->Hf->K->Prop}
 (hQ:∀out h' E',Pr h0 n0 h' n b2 b3 bo na nb va vb (a.length+b.length+1) out->val 10000 out=val 10000 a*val 10000 b->dK [(k2,.p b2 0),(k3,.p b3 0),(k4,x4),(k5,.sl bo 0 (a.length+b.length+1) (a.length+b.length+1))] E'->Q1 .normal E' h' n):
 ∀(m i:Nat) (out:List Nat) (h:Hf),a.length - i=m->i<=a.length->Pr h0 n0 h n b2 b3 bo na nb va vb (a.length+b.length+1) out->val 10000 out=val 10000 (a.take i)*val 10000 b->(∀k,i+b.length<=k->out.getD k 0=0)->WC C Tu [(k2,.p b2 0),(k3,.p b3 0),(k4,x4),(k5,.sl bo 0 (a.length+b.length+1) (a.length+b.length+1)),(k6,.i .i64 (i:Nat))] h n (blk 0 Q1):=by
 intro m
 induction m with
 | zero=>
  intro i out h hm hi p hv hz;have ei:i=a.length:=by omega
  subst ei;have oP:=ia.at_ p.ext;rw[gM]at hv;refine aJ ?_;refine ξ<|ζ<|γ U<|ρ U<|ν U (p.c2.ld U _)<|az U (oP)<|aO U U<|ε ?_;exact ay U (by simp)<|bM (hQ out h _ p hv ⟨rfl,rfl,rfl,rfl,trivial⟩)
 | succ m ih=>
  intro i out h hm hi p hv hz;have ω:i<a.length:=by omega
  have oP:=ia.at_ p.ext;refine aJ ?_;refine ξ<|ζ<|γ U<|ρ U<|ν U (p.c2.ld U _)<|az U (oP)<|aO U U<|ε ?_;refine an U (by simp<;>omega)<|ae ?_;refine ξ<|aC<|ζ<|γ U<|ε ?_;refine ζ<|γ U<|ε ?_;refine aC<|Γ (afW hC fG gp ha hb ia ib ω (val 10000 out) ?_ _ 0 out 0 h rfl (by omega) p (by omega) (by simp[val]) hz) ⟨rfl,rfl,rfl,rfl,rfl,rfl,rfl,trivial⟩;intro MG h1 E1 p1 v1 z1 s1;refine dQ s1 ?_;refine aL<|γ U<|cU U U ⟨by omega,by omega⟩<|γ U<|ε ?_;refine Γ (ih (i+1) MG h1 (by omega) (by omega) p1 ?_ z1) ⟨rfl,rfl,rfl,rfl,rfl,trivial⟩;rw[v1,hv,vS,jm ω,iJ];congr 1;simp only[dP,Nat.mul_left_comm,iE]
end
theorem afY(hC:Cd C){va vb:V}{a b:List Nat}(fG:a.length<1000)(gp:b.length<1000)(ha:Sm 10000 a)(hb:Sm 10000 b)(ia:aQ h n .i64 va a)(ib:aQ h n .i64 vb b)
 (hQ:∀ng v' l' h' n',Ext h n h' n'->aQ h' n' .i64 v' l'->eA 10000 l'->val 10000 l'=val 10000 a*val 10000 b->Q (.a [.b ng,v']) h' n'):τ C (.f 329 [] []) [.a [.b false,va],.a [.b false,vb]] h n Q:=by
 refine τ.go hC.f329 U ?_;have h1:=ia.one;have nj:=ib.one;refine ζ<|et U (rfl) (jx rfl h1) <| λh1 n1 dS a1 e1=>et U (rfl) (jx rfl nj) <| λh2 n2 iL a2 e2=>du <| λh3 n3 og a3 e3=>ε ?_;have iU:=e1.trans e2;have kD:=iU.trans e3;have c1:Cl h3 n3 n [.b false,va] 281:=Cl.ext (Cl.ext ⟨by omega,a1⟩ e2) e3;have c2:Cl h3 n3 n1 [.b false,vb] 281:=Cl.ext ⟨by omega,a2⟩ e3;have c3:Cl h3 n3 n2 [.b false,.ns] 281:=⟨by omega,a3⟩;have qD:=ia.at_ kD;have qE:=ib.at_ kD;refine ζ<|ρ U<|ν U (c1.ld U _)<|az U (qD)<|ρ U<|ν U (c2.ld U _)<|az U (qE)<|lz U U (show(a.length:Int)+(b.length:Int)=((a.length+b.length:Nat):Int) from rfl) ⟨by omega,by omega⟩<|lz U U (show((a.length+b.length:Nat):Int)+1=((a.length+b.length+1:Nat):Int) from rfl) ⟨by omega,by omega⟩<|wS U U (by omega) (by omega) <| λh4 n4 wj a4 e4=>γ U<|ε ?_;rw[Ao]at a4;have qD:=qD.up kD.1;have qE:=qE.up kD.1;have p:Pr h3 n3 h4 n4 n n1 n3 false false va vb (a.length+b.length+1) (List.replicate (a.length+b.length+1) 0):=
  ⟨e4,c1.ext e4,c2.ext e4,⟨by omega,a4⟩,χ _,by omega,by omega,by simp,Sm.rep (by omega) _⟩
 refine ξ<|ζ<|γ U<|ε ?_;refine aC<|Γ (afX hC fG gp ha hb qD qE ?_ _ 0 _ h4 rfl (by omega) p (by rw[Vr];simp[val]) (λk _=>by simp[fj,List.getElem?_replicate];split<;>rfl)) ⟨rfl,rfl,rfl,rfl,rfl,trivial⟩;intro out h5 E5 p5 v5 s5;refine dQ s5 ?_;have io:aQ h5 n4 .i64 (.sl n3 0 (a.length+b.length+1) (a.length+b.length+1)) out:=p5.co.qC p5.len;have d3:=c3.ext p5.ext;refine ζ<|ρ U<|ν U (p5.c2.ld U _)<|ρ U<|ν U (p5.c3.ld U _)<|KZ U U<|γ U<|mc (VR rfl rfl rfl rfl rfl rfl)<|ak U U<|yI hC (by have:=p5.len;omega) io <| λng v6 h6 n6 e6 i6 k6=>bL U U ((d3.ext e6).2) (rQ (jx rfl i6.one)) <| λh7 a7 b7=>ε ?_;have Jq:Ext h n h7 n6:=((kD.trans p5.ext).trans e6).aj b7 (by omega);refine Θ ⟨_,iO rfl (bQ a7 rfl),?_⟩;exact hQ ng v6 (dd out) h7 n6 Jq ((i6.up e6.1).aj b7 (Or.inr (by rw[k6.1];show n3.num≠n2.num;omega))) (rM p5.sm) (by rw[pG,v5])
theorem VX(hC:Cd C){va:V}{a:List Nat}{d:Nat}(fG:a.length<1000)(ha:Sm 10000 a)(hd:d<10000)(ia:aQ h n .i64 va a)
 (hQ:∀v' l' h' n',Ext h n h' n'->aQ h' n' .i64 v' l'->eA 10000 l'->val 10000 l'=val 10000 a*d->Q v' h' n'):τ C (.f 318 [] []) [va,.i .i64 (d:Nat)] h n Q:=by
 refine τ.go hC.f318 U ?_;refine ζ<|γ U<|ε ?_;refine ζ<|γ U<|mc (Cy rfl ia.cells ia.one)<|γ U<|lu U <| λh1 n1 dS a1 e1=>mc (rfl)<|ak U U<|afY hC (b:=[d]) fG (by simp) ha (Sm.cons hd Sm.nil) ((ia.at_ e1).up e1.1) (φ.whole (len:=1) (by omega) a1 rfl) <| λng v2 l2 h2 n2 e2 i2 r2 Gj=>yq U U<|γ U<|ε ?_;refine Θ ⟨_,rfl,hQ v2 l2 h2 n2 (e1.trans e2) i2 r2 (by rw[Gj];simp[val])⟩
end
section
variable {C:Nat->Option bN}{h:Hf}{n:K}{Q:V->Hf->K->Prop}
theorem Iy{B k:Nat}{l:List Nat}(hl:Nz l)(hB:1<B)(h:val B l<B ^ k):l.length<=k:=by
 by_cases aR:l=[]
 ·simp[aR]
 ·have h1:=Ip (B:=B) hl (by omega) aR;have h2:l.length - 1<k:=(Nat.pow_lt_pow_iff_right hB).1 (by omega);omega
theorem VY{a b:Nat}:(gr a b<=0)↔a<=b:=by
 unfold gr;split
 ·simp;omega
 ·split
  ·simp;omega
  ·simp;omega
theorem VZ{a b:Nat}:(gr a b<0)↔a<b:=by
 unfold gr;split
 ·simp;omega
 ·split
  ·simp;omega
  ·simp;omega
theorem MH{b l:List Nat}{d:Nat}(hb:Sm 10000 b)(hl:Nz l)(hd:d<10000)(hv:val 10000 l=val 10000 b*d):l.length<=b.length+1:=by refine Iy (B:=10000) hl (by omega) ?_;have h1:=pF hb;have h2:val 10000 b*d<=val 10000 b*10000:=rh _ (by omega);have h3:val 10000 b*10000<10000 ^ b.length*10000:=Nat.mul_lt_mul_of_pos_right h1 (by omega);rw[hv,gI];omega
section
variable {h0:Hf}{n0:K}{va vb vr vq:V}{b r:List Nat}{i8:Int}
theorem afZ(hC:Cd C)(gp:b.length<500)(hlr:r.length<600)(hb:eA 10000 b)(hr:eA 10000 r)(ib:aQ h0 n0 .i64 vb b)(ir:aQ h0 n0 .i64 vr r){Q1:Ex->Env->Hf->K->Prop}
 (hQ:∀low h n E',low<=9999->low*val 10000 b<=val 10000 r->val 10000 r<(low+1)*val 10000 b->Ext h0 n0 h n->dK [(k0,va),(k1,vb),(k6,vq),(k7,vr),(k8,.i .i64 i8),(k9,.i .i64 (low:Nat))] E'->Q1 .normal E' h n):
 ∀(m low high:Nat) (h:Hf) (n:K),high - low<=m->low<=high->high<=9999->low*val 10000 b<=val 10000 r->val 10000 r<(high+1)*val 10000 b->Ext h0 n0 h n->WC C Lu [(k0,va),(k1,vb),(k6,vq),(k7,vr),(k8,.i .i64 i8),(k9,.i .i64 (low:Nat)),(aA,.i .i64 (high:Nat))] h n (blk 2 Q1):=by
 intro m
 induction m with
 | zero=>
  intro low high h n hm h1 h2 h3 h4 he;have:low=high:=by omega
  subst this;refine aJ ?_;refine ξ<|ζ<|γ U<|γ U<|aO U U<|ε ?_;exact ay U (by simp)<|bM (hQ low h n _ h2 h3 h4 he ⟨rfl,rfl,rfl,rfl,rfl,rfl,trivial⟩)
 | succ m ih=>
  intro low high h n hm g1 g2 g3 g4 he;refine aJ ?_;refine ξ<|ζ<|γ U<|γ U<|aO U U<|ε ?_;refine cB U (λhx=>?_) (λhx=>?_)
  case refine_2=>
   simp only[cV]at hx;have:low=high:=by omega
   subst this;exact bM (hQ low h n _ g2 g3 g4 he ⟨rfl,rfl,rfl,rfl,rfl,rfl,trivial⟩)
  simp only[bA]at hx;refine ae ?_;refine aC<|ζ<|γ U<|γ U<|lz U U (show(low:Int)+(high:Int)=((low+high:Nat):Int) from rfl) ⟨by omega,by omega⟩<|lz U U (show((low+high:Nat):Int)+1=((low+high+1:Nat):Int) from rfl) ⟨by omega,by omega⟩<|Ez (b:=2) U U (by omega) ⟨by omega,by omega⟩<|γ U<|ε ?_;obtain⟨mid,af0⟩:∃mid,mid=(low+high+1) / 2:=⟨_,rfl⟩;rw[←af0];have sN:low<mid:=by omega
  have Jf:mid<=high:=by omega
  have hK:=pF hb.1;have pc:=(ib.at_ he).up he.1;have key:∀{Q:V->Hf->K->Prop},(∀v' l' h' n',Ext h n h' n'->aQ h' n' .i64 v' l'->eA 10000 l'->val 10000 l'=val 10000 b*mid->Q v' h' n')->τ C (.f 318 [] []) [vb,.i .i64 (mid:Nat)] h n Q:=λhQ=>VX hC (by omega) hb.1 (by omega) pc hQ;refine ζ<|γ U<|γ U<|ak U U<|key <| λv1 l1 h1 n1 e1 i1 q1 y1=>mc (Cy rfl i1.cells i1.one)<|ak U U<|yI hC (by have:=MH hb.1 q1.2 (by omega) y1;omega) i1 <| λng v2 h2 n2 e2 i2 k2=>yq U U<|γ U<|ak U U<|VV hC (by have:=MH hb.1 q1.2 (by omega) y1;rw[Vt q1.2];omega) (by omega) (rM q1.1) hr (i2.up e2.1) ((ir.at_ (he.trans (e1.trans e2))).up (he.trans (e1.trans e2)).1)<|pA U U<|ε ?_;rw[pG,y1];have yZ:=he.trans (e1.trans e2);have ec:val 10000 b*mid=mid*val 10000 b:=dP _ _;refine cB U (λhx=>?_) (λhx=>?_)
  ·simp only[bA]at hx;refine aL<|γ U<|γ U<|ε ?_;exact Γ (ih mid high h2 n2 (by omega) Jf g2 (by have:=VY.1 hx;omega) g4 yZ) ⟨rfl,rfl,rfl,rfl,rfl,rfl,rfl,trivial⟩
  ·simp only[cV]at hx;have jV:¬ val 10000 b*mid<=val 10000 r:=λe=>hx (VY.2 e);refine aL<|γ U<|mO U U (show(mid:Int) - 1=((mid - 1:Nat):Int) by omega) ⟨by omega,by omega⟩<|γ U<|ε ?_;refine Γ (ih low (mid - 1) h2 n2 (by omega) (by omega) (by omega) g3 ?_ yZ) ⟨rfl,rfl,rfl,rfl,rfl,rfl,rfl,trivial⟩;rw[show mid - 1+1=mid by omega];omega
end
section
variable {h0:Hf}{n0:K}{va vb:V}{a b:List Nat}{bq:K}
theorem af1(hC:Cd C)(fG:a.length<500)(gp:b.length<500)(ha:Sm 10000 a)(hb:eA 10000 b)(gW:b≠[])(ia:aQ h0 n0 .i64 va a)(ib:aQ h0 n0 .i64 vb b)(hq:n0.num<=bq.num){Q1:Ex->Env->Hf->K->Prop}
 (hQ:∀q r vr h n E',q.length=a.length->Cl h n bq (nC .i64 q) 3->(vr=.ns\/bq.num<vr.blk.num)->aQ h n .i64 vr r->eA 10000 r->val 10000 r=val 10000 a % val 10000 b->Ext h0 n0 h n->dK [(k6,.sl bq 0 a.length a.length),(k7,vr)] E'->Q1 .normal E' h n):
 ∀(m:Nat) (q r:List Nat) (vr:V) (h:Hf) (n:K),m<=a.length->q.length=a.length->Cl h n bq (nC .i64 q) 3->aQ h n .i64 vr r->(vr=.ns\/bq.num<vr.blk.num)->eA 10000 r->val 10000 r=val 10000 (a.drop m) % val 10000 b->Ext h0 n0 h n->WC C To [(k0,va),(k1,vb),(k6,.sl bq 0 a.length a.length),(k7,vr),(k8,.i .i64 ((m:Int) - 1))] h n (blk 0 Q1):=by
 have Gk:0<val 10000 b:=xJ λe=>gW ((val_zero (B:=10000) hb.2 (by omega)).1 e);intro m
 induction m with
 | zero=>
  intro q r vr h n hm Jr hc ir hvr hr hv he;refine aJ ?_;refine ξ<|ζ<|γ U<|fL U U<|ε ?_;exact ay U (by simp<;>omega)<|bM (hQ q r vr h n _ Jr hc hvr ir hr hv he ⟨rfl,rfl,trivial⟩)
 | succ m ih=>
  intro q r vr h n hm Jr hc ir hvr hr hv he;have ω:m<a.length:=by omega
  have em:((m+1:Nat):Int) - 1=(m:Nat):=by omega
  rw[em];have oP:=ia.at_ he;have ga:=oP.get ω 1;have oA:r.length<=b.length:=pH hr.2 hb.1 (by omega) (by have:=lS (val 10000 (a.drop (m+1))) Gk;omega);refine aJ ?_;refine ξ<|ζ<|γ U<|fL U U<|ε ?_;refine an U (by simp<;>omega)<|ae ?_;have auo:r.length<=b.length:=oA;refine ξ<|aC<|ζ<|γ U<|γ U<|bj U U (oP) (ω)<|ν U (ga)<|lu U <| λh1 n1 dS a1 e1=>γ U<|RB U (φ.whole (len:=1) (by omega) a1 rfl) U ((ir.ext e1)) (by omega) (by omega) (by omega) <| λv2 h2 n2 i2 e2 iL k2=>mc (Cy rfl (φ.cells i2) (φ.one i2))<|ak U U<|yI hC (l:=a[m]::r) (by simp;omega) (show φ h2 n2 1 v2 (a[m]::r).length _ by simpa[nC,rm]using i2) <| λng v3 h3 n3 e3 i3 k3=>yq U U<|γ U<|ε ?_;have sm1:Sm 10000 (a[m]::r):=Sm.cons (ha.get ω) hr.1;have q3:=rM sm1;have De:Ext h0 n0 h3 n3:=he.trans ((e1.trans e2).trans e3);have vR:val 10000 (dd (a[m]::r))=a[m]+10000*val 10000 r:=by rw[pG];rfl
  have hRl:(dd (a[m]::r)).length<=b.length+1:=by refine Iy (B:=10000) q3.2 (by omega) ?_;have h1:=pF sm1;rw[pG];refine fk h1 (zA (by omega) (by simp;omega))
  have cZ:val 10000 (dd (a[m]::r))<10000*val 10000 b:=by have h1:=lS (val 10000 (a.drop (m+1))) Gk;have h2:a[m]<10000:=ha.get ω;have h3:10000*(val 10000 r+1)<=10000*val 10000 b:=rh _ (by omega);rw[vR];omega
  have V2:val 10000 (dd (a[m]::r)) % val 10000 b=val 10000 (a.drop m) % val 10000 b:=by rw[vR,hv,Mo,←AE a ω]
  generalize hR:dd (a[m]::r)=R at*;have Gm:v3=.ns\/bq.num<v3.blk.num:=by right;rw[k3.1];have:=hc.1;rcases k2 with k | k<;>rw[k]<;>omega
  have Bk:=hc.ext ((e1.trans e2).trans e3);have qE:=ib.at_ De;have iR:=i3.up e3.1;refine ζ<|γ U<|γ U<|ε ?_;refine ξ<|ζ<|γ U<|γ U<|ak U U<|VV hC (by omega) (by omega) q3 hb iR (qE.up De.1)<|aO U U<|ε ?_;have bs:∀high:Nat,high<=9999->val 10000 R<(high+1)*val 10000 b->WC C (.block 2 Lu) [(k0,va),(k1,vb),(k6,.sl bq 0 a.length a.length),(k7,v3),(k8,.i .i64 (m:Nat)),(k9,.i .i64 ((0:Nat):Int)),(aA,.i .i64 (high:Nat))] h3 n3 (sq C Tn (blk 1 (sq C Lv (sq C (.loop Lw) (blk 0 Q1))))):=by
   intro high hh hh2;refine aC<|afZ hC gp (by omega) hb q3 (qE.up De.1) iR ?_ high 0 high h3 n3 (by omega) (by omega) hh (by omega) hh2 (Ext.refl h3 n3);intro low h4 n4 E4 l1 l2 l3 e4 s4;refine dQ s4 ?_;have tx:=Bk.ext e4;have iq:=tx.qC Jr;have hmq:m<q.length:=by omega
   have jU:=hc.1;refine ζ<|γ U<|γ U<|γ U<|bj U U (iq) (hmq)<|bL U U (tx.2) (yt hmq _ (by simp[V.off])) <| λh5 a5 b5=>ε ?_;have Yw:Cl h5 n4 bq (nC .i64 (q.set m low)) 3:=⟨tx.1,a5⟩;have iR5:aQ h5 n4 .i64 v3 R:=(iR.ext e4).aj b5 (Gm.imp id λh=>Nat.ne_of_gt h);have OC:Ext h0 n0 h5 n4:=(De.trans e4).aj b5 hq;have uc:=(ib.at_ OC).up OC.1;have next:∀r' mX h6 n6,Cl h6 n6 bq (nC .i64 (q.set m low)) 3->aQ h6 n6 .i64 mX r'->(mX=.ns\/bq.num<mX.blk.num)->eA 10000 r'->val 10000 r'=val 10000 (a.drop m) % val 10000 b->Ext h0 n0 h6 n6->WC C Lv [(k0,va),(k1,vb),(k6,.sl bq 0 a.length a.length),(k7,mX),(k8,.i .i64 (m:Nat))] h6 n6 (sq C (.loop Lw) (blk 0 Q1)):=by intro r' mX h6 n6 g1 g2 g3 g4 g5 g6;refine aL<|γ U<|iz U U ⟨by omega,by omega⟩<|γ U<|ε ?_;exact Γ (ih (q.set m low) r' mX h6 n6 (by omega) (by rw[mD];exact Jr) g1 g2 g3 g4 g5 g6) ⟨rfl,rfl,rfl,rfl,rfl,trivial⟩
   refine ζ<|γ U<|cS U U<|ε ?_;refine cB U (λhx=>?_) (λhx=>ae ?_)
   ·simp only[bA]at hx;refine aL<|γ U<|γ U<|γ U<|ak U U<|VX hC (d:=low) (by omega) hb.1 (by omega) uc <| λv6 l6 h6 n6 e6 i6 q6 y6=>ak U U<|afS hC (by omega) (by have:=MH hb.1 q6.2 (by omega) y6;omega) q3.1 q6 (iR5.ext e6) i6 (by rw[y6,dP];exact l2) <| λv7 l7 h7 n7 e7 i7 q7 y7 k7=>γ U<|ε ?_;have e67:=e6.trans e7;refine Γ (next l7 v7 h7 n7 (Yw.ext e67) i7 (k7.imp id λh=>?_) q7 ?_ (OC.trans e67)) ⟨rfl,rfl,rfl,rfl,rfl,trivial⟩
    ·have:=e6.1;have:=Yw.1;omega
    ·rw[y7,y6,dP,←V2];refine Vx Gk l2 ?_;rw[iJ,Nat.one_mul]at l3;exact l3
   ·simp only[cV]at hx;have Yx:low=0:=by omega
    refine Γ (next R v3 h5 n4 Yw iR5 Gm q3 ?_ OC) ⟨rfl,rfl,rfl,rfl,rfl,trivial⟩;rw[←V2,zC];rw[Yx]at l3;omega
  refine cB U (λhx=>?_) (λhx=>ae ?_)
  ·simp only[bA]at hx;refine aL<|γ U<|ε ?_;exact ξ<|Γ (bs 0 (by omega) (by have:=VZ.1 hx;omega)) ⟨rfl,rfl,rfl,rfl,rfl,rfl,rfl,trivial⟩
  ·exact ξ<|Γ (bs 9999 (by omega) cZ) ⟨rfl,rfl,rfl,rfl,rfl,rfl,rfl,trivial⟩
end
theorem AM:∀l:List Nat,(dd l).length<=l.length:=by
 intro l
 induction l with
 | nil=>simp[dd]
 | cons a l ih=>
  simp only[dd];split
  ·split<;>simp
  ·rename_i b m h;rw[h]at ih;simp at ih ⊢;omega
theorem af7(hC:Cd C){va vb:V}{a b:List Nat}(fG:a.length<500)(gp:b.length<500)(ha:Sm 10000 a)(hb:eA 10000 b)(gW:b≠[])(ia:aQ h n .i64 va a)(ib:aQ h n .i64 vb b)
 (hQ:∀vq q vr r h' n',Ext h n h' n'->aQ h' n' .i64 vq q->q.length<=a.length->aQ h' n' .i64 vr r->eA 10000 r->val 10000 r=val 10000 a % val 10000 b->(vr=.ns\/n.num<=vr.blk.num)->Q (.u [vq,vr]) h' n'):τ C (.f 299 [] []) [va,vb] h n Q:=by
 refine τ.go hC.f299 U ?_;refine ζ<|γ U<|γ U<|ε ?_;refine ζ<|γ U<|az U (ia)<|wS U U (by omega) (by omega) <| λh1 n1 dS a1 e1=>γ U<|ε ?_;rw[Ao]at a1;refine ζ<|γ U<|ε ?_;have OD:=ia.at_ e1;refine ξ<|ζ<|γ U<|az U (OD)<|iz U U ⟨by omega,by omega⟩<|γ U<|ε ?_;refine aC<|Γ (af1 (h0:=h) (n0:=n) (bq:=n) hC fG gp ha hb gW ia ib (χ _) ?_ a.length (List.replicate a.length 0) [] .ns h1 n1 (χ _) (by simp) ⟨by omega,a1⟩ aQ.nil (Or.inl U) eA.nil (by rw[gY];simp[val]) e1) ⟨rfl,rfl,rfl,rfl,rfl,trivial⟩;intro q r vr h2 n2 E2 q1 q2 q7 q3 q4 q5 q6 s2;refine dQ s2 ?_;have iq:aQ h2 n2 .i64 (.sl n 0 a.length a.length) q:=q2.qC q1;refine ζ<|γ U<|mc (Cy rfl rfl rfl)<|ak U U<|yI hC (by omega) iq <| λng v3 h3 n3 e3 i3 k3=>yq U U<|γ U<|γ U<|γ U<|ε ?_;refine Θ ⟨_,rfl,?_⟩;exact hQ v3 (dd q) vr r h3 n3 (q6.trans e3) (i3.up e3.1) (by rw[←q1];exact AM q) (q3.ext e3) q4 q5 (q7.imp id fY)
theorem Iz{v:V}{x:Bool}(h:bB n v=true):bB n (.a [.b x,v])=true:=by simp[bB,gn,h]
theorem IA{v:V}{x:Bool}(h:cT v v=true):cT (.a [.b x,v]) (.a [.b x,v])=true:=by simp[cT,kG,h]
theorem af8(hC:Cd C){va vb:V}{nb:Bool}{a b:List Nat}(fG:a.length<500)(gp:b.length<500)(ha:Sm 10000 a)(hb:eA 10000 b)(gW:b≠[])(ia:aQ h n .i64 va a)(ib:aQ h n .i64 vb b)
 (hQ:∀vq vr r ng nr h' n',Ext h n h' n'->vq.one=true->nr=false->aQ h' n' .i64 vr r->eA 10000 r->val 10000 r=val 10000 a % val 10000 b->(vr=.ns\/n.num<=vr.blk.num)->Q (.u [.a [.b ng,vq],.a [.b nr,vr]]) h' n'):τ C (.f 268 [] []) [.a [.b false,va],.a [.b nb,vb]] h n Q:=by
 refine τ.go hC.f268 U ?_;have h1:=ia.one;have nj:=ib.one;refine ζ<|et U (rfl) (jx rfl h1) <| λh1 n1 dS a1 e1=>et U (rfl) (jx rfl nj) <| λh2 n2 iL a2 e2=>du <| λh3 n3 og a3 e3=>du <| λh4 n4 wj a4 e4=>ε ?_;have iU:=e1.trans e2;have ue:=(iU.trans e3).trans e4;have c2:Cl h4 n4 n [.b false,va] 281:=((Cl.ext ⟨by omega,a1⟩ e2).ext e3).ext e4;have c3:Cl h4 n4 n1 [.b nb,vb] 281:=(Cl.ext ⟨by omega,a2⟩ e3).ext e4;have c4:Cl h4 n4 n2 [.b false,.ns] 281:=Cl.ext ⟨by omega,a3⟩ e4;have c5:Cl h4 n4 n3 [.b false,.ns] 281:=⟨by omega,a4⟩;refine ζ<|ρ U<|ν U (c2.ld U _)<|ρ U<|ν U (c3.ld U _)<|ak U U<|af7 hC fG gp ha hb gW ((ia.at_ ue).up ue.1) ((ib.at_ ue).up ue.1) <| λvq q vr r h5 n5 e5 i5 l5 Gn r5 v5 u5=>γ U<|dG U U<|dG U U<|γ U<|γ U<|ε ?_;have d2:=c2.ext e5;have d3:=c3.ext e5;have d4:=c4.ext e5;have d5:=c5.ext e5;have ho:=aQ.one Gn;refine ζ<|ρ U<|ν U (d2.ld U _)<|ρ U<|ν U (d3.ld U _)<|KZ U U<|γ U<|mc (VR rfl rfl rfl rfl i5.cells i5.one)<|ak U U<|yI hC (by omega) i5 <| λng v6 h6 n6 e6 i6 k6=>γ U<|mc (Cy rfl Gn.cells ho)<|du <| λh7 n7 xA a7 e7=>du <| λh8 n8 Gp a8 e8=>bL U U ((Cl.ext (n:=n7) ⟨by omega,a7⟩ e8).2) (rQ (jx rfl i6.one)) <| λh9 a9 b9=>bL U U ((Cl.aj (n:=n8) ⟨by omega,a8⟩ b9 (by omega)).2) (rQ (jx rfl ho)) <| λkC zd fT=>ε ?_;have Fj:Ext h5 n5 kC n8:=(((e6.trans e7).trans e8).aj b9 (by have:=e6.1;omega)).aj fT (by have:=e6.1;omega);have c8:Cl kC n8 n6 [.b ng,v6] 281:=Cl.aj ⟨by omega,a9⟩ fT (by omega);have c9:Cl kC n8 n7 [.b false,vr] 281:=⟨by omega,zd⟩;have f2:=d2.ext Fj;have f4:=d4.ext Fj;have f5:=d5.ext Fj;have i10:=(Gn.ext Fj);have OE:aQ kC n6 .i64 v6 _:=(i6.up e6.1).at_ (((((Ext.refl h6 n6).trans e7).trans e8).aj b9 (χ _)).aj fT (by omega));have lr:r.length<500:=by
  by_cases hc:val 10000 b=0
  ·exact absurd ((val_zero hb.2 (by omega)).1 hc) gW
  ·have:=pH (B:=10000) r5.2 hb.1 (by omega) (by rw[v5];exact fY (lS _ (by omega)));omega
 refine ξ<|ζ<|ρ U<|ν U (f2.ld U _)<|γ U<|μ U (rfl)<|μ U (rfl)<|μ U (rfl)<|aK U (rfl) U<|ε ?_;refine ay U U<|ae ?_;have l8:aX kC true 2 (.p n6 0)=some (.a [.b ng,v6]):=bQ c8.2 rfl;have l9:aX kC true 2 (.p n7 0)=some (.a [.b false,vr]):=bQ c9.2 rfl;refine dh<|aD U (l8) (Iz (φ.below OE (by omega))) (IA (φ.da OE))<|aD U (l9) (Iz (φ.below i10 (χ _))) (IA (φ.da i10))<|cj U U<|yI hC (by omega) i10 <| λnr v11 mN tA uf i11 aE=>fV U U ((f4.ext uf).2) (rQ (jx rfl OE.one)) <| λjO Js b12=>fV U U ((Cl.aj (n:=tA) (f5.ext uf) b12 (by omega)).2) (rQ (jx rfl i11.one)) <| λsA MI ef=>cG (⟨⟨Ω (by simp[Nat.testBit]),Ω (by simp[Nat.testBit]),Ω (by simp[Nat.testBit]),trivial⟩,⟨Ω (by simp[Nat.testBit]),Ω (by simp[Nat.testBit]),dj (l8) (bQ (c8.ext uf).2 rfl),trivial⟩,trivial⟩) ?_;have af9:sA n2=some (.c [.b ng,v6] 281 0):=(ef _ (by omega)).trans Js;refine Θ ⟨_,Eu rfl (bQ af9 rfl) U (bQ MI rfl),?_⟩;have g12:=iU.1;have MJ:v11=.ns\/n4.num<=v11.blk.num:=u5.imp aE.2.1 λh=>by rw[aE.1];exact h
 have x13:Ext h n sA tA:=((((ue.trans e5).trans Fj).trans uf).aj b12 (by omega)).aj ef (by omega);refine hQ v6 v11 (dd r) ng nr sA tA x13 OE.one (aE.2.2 rfl) ?_ (rM r5.1) (by rw[pG];exact v5) (MJ.imp id λh=>by have:=ue.1;omega);have aga:=i11.up uf.1;exact(aga.aj b12 (MJ.imp id λh=>by omega)).aj ef (MJ.imp id λh=>by omega)
theorem agb(hC:Cd C){h0:Hf}{n0 b2 b3 b4:K}(qt:n0.num<=b2.num)(MK:n0.num<=b3.num)(OF:n0.num<=b4.num)(h23:b2.num≠b3.num)(h24:b2.num≠b4.num)(h34:b3.num≠b4.num){G:Nat}
 {Q1:Ex->Env->Hf->K->Prop}(hQ:∀va g h n E',Ext h0 n0 h n->Cl h n b2 [.b false,va] 281->Cl h n b4 [.b false,.ns] 281->aQ h n .i64 va g->eA 10000 g->val 10000 g=G->(va=.ns\/va.blk.num≠b4.num)->dK [(k2,.p b2 0),(k4,.p b4 0)] E'->Q1 .normal E' h n):
 ∀(m:Nat) (va vb:V) (a b:List Nat) (h:Hf) (n:K),val 10000 b<=m->a.length<500->b.length<500->eA 10000 a->eA 10000 b->Nat.gcd (val 10000 a) (val 10000 b)=G->aQ h n .i64 va a->aQ h n .i64 vb b->(va=.ns\/va.blk.num≠b2.num/\va.blk.num≠b3.num/\va.blk.num≠b4.num)->(vb=.ns\/vb.blk.num≠b2.num/\vb.blk.num≠b3.num/\vb.blk.num≠b4.num)->Ext h0 n0 h n->Cl h n b2 [.b false,va] 281->Cl h n b3 [.b false,vb] 281->Cl h n b4 [.b false,.ns] 281->WC C Tm [(k2,.p b2 0),(k3,.p b3 0),(k4,.p b4 0)] h n (blk 0 Q1):=by
 intro m
 induction m with
 | zero=>
  intro va vb a b h n hm fG gp ha hb hG ia ib Df Bm he c2 c3 c4;have gW:b=[]:=(val_zero (B:=10000) hb.2 (by omega)).1 (by omega);subst gW;refine aJ ?_;refine ξ<|ζ<|ρ U<|ν U (c3.ld U _)<|az U (ib)<|cS U U<|ε ?_;exact ay U U<|bM (hQ va a h n _ he c2 c4 ia ha (by simpa[val]using hG) (Df.imp id λh=>h.2.2) ⟨rfl,rfl,trivial⟩)
 | succ m ih=>
  intro va vb a b h n hm fG gp ha hb hG ia ib Df Bm he c2 c3 c4;refine aJ ?_;by_cases gW:b=[]
  ·subst gW;refine ξ<|ζ<|ρ U<|ν U (c3.ld U _)<|az U (ib)<|cS U U<|ε ?_;exact ay U U<|bM (hQ va a h n _ he c2 c4 ia ha (by simpa[val]using hG) (Df.imp id λh=>h.2.2) ⟨rfl,rfl,trivial⟩)
  ·refine ξ<|ζ<|ρ U<|ν U (c3.ld U _)<|az U (ib)<|cS U U<|ε ?_;have hK:0<b.length:=by cases b with | nil=>exact absurd rfl gW | cons=>simp
   refine an U (by simp<;>omega)<|ae ?_;have Gk:0<val 10000 b:=xJ λe=>gW ((val_zero (B:=10000) hb.2 (by omega)).1 e);refine aC<|ζ<|ν U (bQ c2.2 rfl)<|ν U (bQ c3.2 rfl)<|ak U U<|af8 hC fG gp ha.1 hb gW ia ib <| λvq vr r ng nr h1 n1 e1 hvq hnr ir hr mX ur=>γ U<|dG U U<|dG U U<|du <| λh2 n2 iL a2 e2=>du <| λh3 n3 og a3 e3=>bL U U ((Cl.ext (n:=n2) ⟨by omega,a2⟩ e3).2) (rQ (jx rfl hvq)) <| λh4 a4 t4=>bL U U ((Cl.aj (n:=n3) ⟨by omega,a3⟩ t4 (by omega)).2) (rQ (jx rfl ir.one)) <| λh5 a5 t5=>ε ?_;subst hnr;have g2:=c2.1;have g3:=c3.1;have g4:=c4.1;have lN:Ext h1 n1 h5 n3:=((e2.trans e3).aj t4 (χ _)).aj t5 (by omega);have d2:=(c2.ext e1).ext lN;have d3:=(c3.ext e1).ext lN;have d4:=(c4.ext e1).ext lN;have l3:aX h5 true 2 (.p b3 0)=some (.a [.b false,vb]):=bQ d3.2 rfl;have l6:aX h5 true 2 (.p n2 0)=some (.a [.b false,vr]):=bQ a5 rfl;have uc:=(ib.ext e1).ext lN;have Gq:=ir.ext lN;have g1:=e1.1;refine uG<|aD U (l3) (Iz (φ.below uc (χ _))) (IA (φ.da uc))<|aD U (l6) (Iz (φ.below Gq (χ _))) (IA (φ.da Gq))<|fV U U (d2.2) (rQ (jx rfl ib.one)) <| λh6 a6 b6=>fV U U ((d3.aj b6 (by omega)).2) (rQ (jx rfl ir.one)) <| λh7 a7 b7=>cG (⟨⟨Ω (by simp[Nat.testBit]),dj (l6) (bQ ((b6 _ (by omega)).trans a5) U),trivial⟩,⟨Ω (by simp[Nat.testBit]),Ω (by simp[Nat.testBit]),trivial⟩,trivial⟩) ?_;have Gs:h7 b2=some (.c [.b false,vb] 281 0):=(b7 _ (by omega)).trans a6;have qY:de b2 h5 h6:=b6;have qF:de b3 h6 h7:=b7;have Yy:h7 b3=some (.c [.b false,vr] 281 0):=a7;have BQ:=lS (val 10000 a) Gk;have oA:r.length<500:=by have:=pH (B:=10000) hr.2 hb.1 (by omega) (by rw[mX];exact fY BQ);omega
   have Gt:vr=.ns\/vr.blk.num≠b2.num/\vr.blk.num≠b3.num/\vr.blk.num≠b4.num:=ur.imp id λh=>⟨by omega,by omega,by omega⟩;refine Γ (ih vb vr b r h7 n3 (by omega) gp oA hb hr ?_ ((uc.aj qY (Bm.imp id λh=>h.1)).aj qF (Bm.imp id λh=>h.2.1)) ((Gq.aj qY (Gt.imp id λh=>h.1)).aj qF (Gt.imp id λh=>h.2.1)) Bm Gt (((he.trans (e1.trans lN)).aj qY qt).aj qF MK) ⟨d2.1,Gs⟩ ⟨d3.1,Yy⟩ ((d4.aj qY (by omega)).aj qF (by omega))) ⟨rfl,rfl,rfl,trivial⟩;rw[mX,←hG,Nat.gcd_comm (val 10000 a),Nat.gcd_rec (val 10000 b) (val 10000 a),Nat.gcd_comm]
theorem agc(hC:Cd C){va vb:V}{na nb:Bool}{a b:List Nat}(fG:a.length<500)(gp:b.length<500)(ha:eA 10000 a)(hb:eA 10000 b)(ia:aQ h n .i64 va a)(ib:aQ h n .i64 vb b)
 (hQ:∀vg g h' n',Ext h n h' n'->aQ h' n' .i64 vg g->eA 10000 g->val 10000 g=Nat.gcd (val 10000 a) (val 10000 b)->Q (.a [.b false,vg]) h' n'):τ C (.f 226 [] []) [.a [.b na,va],.a [.b nb,vb]] h n Q:=by
 refine τ.go hC.f226 U ?_;have h1:=ia.one;have nj:=ib.one;refine ζ<|et U (rfl) (jx rfl h1) <| λh1 n1 dS a1 e1=>et U (rfl) (jx rfl nj) <| λh2 n2 iL a2 e2=>du <| λh3 n3 og a3 e3=>ε ?_;have kD:=(e1.trans e2).trans e3;have c2:Cl h3 n3 n [.b na,va] 281:=(Cl.ext ⟨by omega,a1⟩ e2).ext e3;have c3:Cl h3 n3 n1 [.b nb,vb] 281:=Cl.ext ⟨by omega,a2⟩ e3;have c4:Cl h3 n3 n2 [.b false,.ns] 281:=⟨by omega,a3⟩;refine ζ<|ρ U<|bL U U (c2.2) (Ix rfl rfl) <| λh4 a4 b4=>ρ U<|bL U U ((c3.aj b4 (by omega)).2) (Ix rfl rfl) <| λh5 a5 b5=>ε ?_;have lN:Ext h n h5 n3:=(kD.aj b4 (χ _)).aj b5 (by omega);have k2:Cl h5 n3 n [.b false,va] 281:=Cl.aj ⟨c2.1,a4⟩ b5 (by omega);have k3:Cl h5 n3 n1 [.b false,vb] 281:=⟨c3.1,a5⟩;have k4:=(c4.aj b4 (by omega)).aj b5 (by omega);refine ξ<|aC<|Γ (agb hC (h0:=h) (n0:=n) (b2:=n) (b3:=n1) (b4:=n2) (χ _) (by omega) (by omega) (by omega) (by omega) (by omega) ?_ _ va vb a b h5 n3 (χ _) fG gp ha hb rfl ((ia.at_ lN).up lN.1) ((ib.at_ lN).up lN.1) ((ia.zQ).imp id λh=>⟨by omega,by omega,by omega⟩) ((ib.zQ).imp id λh=>⟨by omega,by omega,by omega⟩) lN k2 k3 k4) ⟨rfl,rfl,rfl,trivial⟩;intro vg g h6 n6 E6 x6 d2 d4 i6 r6 v6 u6 s6;refine dQ s6 ?_;refine ζ<|ν U (bQ d2.2 rfl)<|bL U U (d4.2) (rQ (jx rfl i6.one)) <| λh7 a7 b7=>ε ?_;refine Θ ⟨_,iO rfl (bQ a7 rfl),?_⟩;exact hQ vg g h7 n6 (x6.aj b7 (by omega)) (i6.aj b7 u6) r6 v6
end
section
variable {C:Nat->Option bN}{h:Hf}{n:K}{Q:V->Hf->K->Prop}
theorem AN{c:UInt8}(h:gL c=true):48<=c.toNat/\c.toNat<=57:=by simpa only[gL,bh,bA]using h
theorem agd{b:S}{lo e:Nat}(h1:lo<=e)(h2:e<=b.length):dec (b.take e)=dec (b.take lo)*10 ^ (e - lo)+dec ((b.drop lo).take (e - lo)):=by
 have:b.take e=b.take lo++(b.drop lo).take (e - lo):=by rw[←Bq lo (b.take e),List.take_take,xR h1,List.drop_take]
 rw[this,Iq];congr 3;simp;omega
theorem age{b:S}{lo i:Nat}(h1:lo<=i)(h2:i<b.length):(b.drop lo).take (i+1 - lo)=(b.drop lo).take (i - lo)++[b[i]]:=by
 have e:i+1 - lo=(i - lo)+1:=by omega
 rw[e,pg (by simp;omega)];congr 2;rw[List.getElem_drop];congr 1;omega
theorem ML{k:Nat}(h:k<=4):10 ^ k<=10000:=by have:10 ^ k<=10 ^ 4:=zA (by omega) h;simpa using this
theorem ig.one{h:Hf}{e z len:Nat}{v:V}{cs:List V}(a:ig h e z v len cs):v.one=true:=by
 rcases a.2 with h | ⟨_,b,h,_⟩
 ·rw[h.1];rfl
 ·rw[h];rfl
theorem ig.cells{h:Hf}{e z len:Nat}{v:V}{cs:List V}(a:ig h e z v len cs):v.cells=[v]:=by
 rcases a.2 with h | ⟨_,b,h,_⟩
 ·rw[h.1];rfl
 ·rw[h];rfl
section
variable {b:S}{x2 x3:V}
theorem agf{lo e:Nat}(hb:b.length<1000)(hd:∀c∈b,gL c=true)(h1:lo<=e)(h2:e<=b.length)(h4:e - lo<=4){Q1:Ex->Env->Hf->K->Prop}
 (hQ:∀E',dK [(k0,st b),(k2,x2),(k3,x3),(k4,.i .i64 (e:Nat)),(k5,.i .i64 (dec ((b.drop lo).take (e - lo)):Nat))] E'->Q1 .normal E' h n):
 ∀(m i:Nat),e - i=m->lo<=i->i<=e->WC C Th [(k0,st b),(k2,x2),(k3,x3),(k4,.i .i64 (e:Nat)),(k5,.i .i64 (dec ((b.drop lo).take (i - lo)):Nat)),(k6,.i .i64 (i:Nat))] h n (blk 2 Q1):=by
 intro m
 induction m with
 | zero=>
  intro i hm hl hi;have:i=e:=by omega
  subst this;refine aJ ?_;refine ξ<|ζ<|γ U<|γ U<|aO U U<|ε ?_;exact ay U (by simp)<|bM (hQ _ ⟨rfl,rfl,rfl,rfl,rfl,trivial⟩)
 | succ m ih=>
  intro i hm hl hi;have ω:i<b.length:=by omega
  have sc:=AN (hd b[i] (fW _));have hs:=age hl ω;have MM:dec ((b.drop lo).take (i+1 - lo))=10*dec ((b.drop lo).take (i - lo))+(b[i].toNat - 48):=by rw[hs];exact Vy 0 _ _
  have MN:dec ((b.drop lo).take (i - lo))<10 ^ (i - lo):=by
   have:=dec_lt (s:=(b.drop lo).take (i - lo)) (λc hc=>hd c (Dw (wv hc)));have oY:((b.drop lo).take (i - lo)).length=i - lo:=by simp;omega
   rw[oY]at this;exact this
  have hp:=ML (k:=i - lo) (by omega);refine aJ ?_;refine ξ<|ζ<|γ U<|γ U<|aO U U<|ε ?_;refine an U (by simp<;>omega)<|ae ?_;generalize hD:dec ((b.drop lo).take (i - lo))=D at*;refine ξ<|aC<|aL<|γ U<|K9 U U (show(10:Int)*(D:Nat)=((10*D:Nat):Int) by omega) ⟨by omega,by omega⟩<|γ U<|γ U<|lZ U U (ω)<|mO U U (show((b[i].toNat:Nat):Int) - 48=((b[i].toNat - 48:Nat):Int) by omega) ⟨by omega,by omega⟩<|pB U ⟨by omega,by omega⟩<|lz U U (show((10*D:Nat):Int)+((b[i].toNat - 48:Nat):Int)=((10*D+(b[i].toNat - 48):Nat):Int) by omega) ⟨by omega,by omega⟩<|γ U<|ε ?_;rw[←MM];refine aL<|γ U<|cU U U ⟨by omega,by omega⟩<|γ U<|ε ?_;exact Γ (ih (i+1) (by omega) (by omega) (by omega)) ⟨rfl,rfl,rfl,rfl,rfl,rfl,trivial⟩
theorem agh(hC:Cd C){h0:Hf}{n0 b3:K}{neg:Bool}(y8:n0.num<=b3.num)(hb:b.length<1000)(hd:∀c∈b,gL c=true){Q1:Ex->Env->Hf->K->Prop}
 (hQ:∀l vm h n E',l.length<=b.length->Sm 10000 l->val 10000 l=dec b->Cl h n b3 [.b neg,vm] 281->Ext h0 n0 h n->aQ h n .i64 vm l->(vm=.ns\/b3.num<vm.blk.num)->dK [(k2,x2),(k3,.p b3 0)] E'->Q1 .normal E' h n):
 ∀(m:Nat) (x:Int) (l:List Nat) (vm:V) (h:Hf) (n:K),x.toNat<=m->x<=b.length->l.length+x.toNat<=b.length->Sm 10000 l->dec b=dec (b.take x.toNat)*10000 ^ l.length+val 10000 l->Cl h n b3 [.b neg,vm] 281->Ext h0 n0 h n->ig h 3 1 vm l.length (nC .i64 l)->(vm=.ns\/b3.num<vm.blk.num/\vm.blk.num<n.num) -> -4<=x->WC C Ti [(k0,st b),(k2,x2),(k3,.p b3 0),(k4,.i .i64 x)] h n (blk 0 Q1):=by
 intro m
 induction m with
 | zero=>
  intro x l vm h n hm hx hl hs hv hc he ho xe AP;have Gu:x.toNat=0:=by omega
  refine aJ ?_;refine ξ<|ζ<|γ U<|cS U U<|ε ?_;refine ay U (by simp<;>omega)<|bM (hQ l vm h n _ (by omega) hs ?_ hc he (ho.sl (xe.imp id And.right)) (xe.imp id And.left) ⟨rfl,rfl,trivial⟩);rw[hv,Gu];simp[dec,oL]
 | succ m ih=>
  intro x l vm h n hm hx hl hs hv hc he ho xe AP;refine aJ ?_;by_cases Gu:x<=0
  ·refine ξ<|ζ<|γ U<|cS U U<|ε ?_;refine ay U (by simp<;>omega)<|bM (hQ l vm h n _ (by omega) hs ?_ hc he (ho.sl (xe.imp id And.right)) (xe.imp id And.left) ⟨rfl,rfl,trivial⟩);rw[hv,show x.toNat=0 by omega];simp[dec,oL]
  ·obtain⟨e,rfl⟩:∃e:Nat,x=(e:Int):=⟨x.toNat,by omega⟩;simp only[Int.toNat_natCast]at*;refine ξ<|ζ<|γ U<|cS U U<|ε ?_;refine an U (by simp<;>omega)<|ae ?_;refine ξ<|aC<|ζ<|γ U<|ε ?_;refine ξ<|ζ<|γ U<|iz U U ⟨by omega,by omega⟩<|K2 U U<|γ U<|ε ?_;obtain⟨lo,gg⟩:∃lo:Nat,lo=e - 4:=⟨_,rfl⟩;have e1:max (0:Int) ((e:Int) - 4)=(lo:Nat):=by omega
   rw[e1];refine aC<|Γ (agf (x2:=x2) (x3:=.p b3 0) (lo:=lo) (e:=e) hb hd (by omega) (by omega) (by omega) ?_ _ lo rfl (χ _) (by omega)) ⟨rfl,rfl,rfl,rfl,by rw[qc,List.take_zero];rfl,rfl,trivial⟩;intro E1 s1;refine dQ s1 ?_;have ug:=agd (b:=b) (lo:=lo) (e:=e) (by omega) (by omega);have MN:dec ((b.drop lo).take (e - lo))<10000:=by
    have:=dec_lt (s:=(b.drop lo).take (e - lo)) (λc hc=>hd c (Dw (wv hc)));have oY:((b.drop lo).take (e - lo)).length=e - lo:=by simp;omega
    rw[oY]at this;have:=ML (k:=e - lo) (by omega);omega
   generalize hD:dec ((b.drop lo).take (e - lo))=D at*;have h3n:=hc.1;refine aL<|ρ U<|ν U (hc.ld U _)<|γ U<|lu U <| λh1 n1 dS a1 e1=>yr U (ho.ext (xe.imp id λh=>e1.2 _ h.2)) U (φ.whole (len:=1) (by omega) a1 rfl) (by omega) (by omega) (by omega) (by omega) U ((xe.imp id λh=>by omega)) <| λv2 h2 n2 sy fM iL kz=>ρ U<|bL U U ((kz _ (by omega) (xe.imp id λh=>by omega)).trans (e1.2 _ h3n |>.trans hc.2)) (VU rfl sy.cells sy.one) <| λh3 a3 xf=>ε ?_;have Fk:de b3 h2 h3:=xf;have a3':h3 b3=some (.c [.b neg,v2] 281 0):=a3;have e2:nC .i64 l++[V.i .i64 (D:Nat)]=nC .i64 (l++[D]):=by rw[K7];rfl
   rw[e2]at sy;have ho3:ig h3 3 1 v2 (l++[D]).length (nC .i64 (l++[D])):=by rw[oi];exact sy.ext (Or.inr (Fk _ (by rw[fM];omega)))
   have mA:Ext h0 n0 h3 n2:=by refine⟨by have:=he.1;omega,λk hk=>?_⟩;have:=he.1;rw[Fk _ (by omega),kz k (by omega) (xe.imp id λh=>by omega),e1.2 _ (by omega),he.2 _ hk]
   refine aL<|γ U<|iz U U ⟨by omega,by omega⟩<|γ U<|ε ?_;refine Γ (ih ((e:Int) - 4) (l++[D]) v2 h3 n2 (by omega) (by omega) (by simp;omega) ?_ ?_ ⟨by omega,a3'⟩ mA ho3 (Or.inr ⟨by rw[fM];omega,by rw[fM];omega⟩) (by omega)) ⟨rfl,rfl,rfl,rfl,trivial⟩
   ·intro y hy;rcases xP.1 hy with hy | hy
    ·exact hs y hy
    ·simp at hy;rw[hy];exact MN
   ·have e5:((e:Int) - 4).toNat=lo:=by omega
    rw[e5,hv,ug,yG];simp only[val,kE,kF,oi,List.length_singleton];rw[iJ,gI,dP D];have:dec (b.take lo)*10 ^ (e - lo)*10000 ^ l.length=dec (b.take lo)*(10000 ^ l.length*10000):=by
     by_cases h4:4<=e
     ·rw[show e - lo=4 by omega,iE];congr 1;rw[dP]
     ·rw[show lo=0 by omega];simp[dec,oL]
    omega
end
theorem V3(hC:Cd C){s:S}(hlen:s.length<1000)(hf:jl s=true)
 (hQ:∀ng v l h' n',Ext h n h' n'->aQ h' n' .i64 v l->eA 10000 l->l.length<=s.length->val 10000 l=dec (body s)->Q (.a [.b ng,v]) h' n'):τ C (.f 227 [] []) [st s] h n Q:=by
 obtain⟨jc,aR⟩:=Fa hf;have hK:=Fb s;refine τ.go hC.f227 U ?_;refine ζ<|du <| λh1 n1 dS a1 e1=>ε ?_;refine ζ<|du <| λh2 n2 iL a2 e2=>ε ?_;have c2:Cl h2 n2 n [.b false,.ns] 281:=Cl.ext ⟨by omega,a1⟩ e2;have c3:Cl h2 n2 n1 [.b false,.ns] 281:=⟨by omega,a2⟩;have iU:=e1.trans e2;have rest:∀neg h3,de n1 h2 h3->Cl h3 n2 n1 [.b neg,.ns] 281->WC C Tj [(k0,st (body s)),(k2,.p n 0),(k3,.p n1 0)] h3 n2 (fq [.cell k2 true 2] Q):=by
  intro neg h3 b3 c3;have e3:Ext h n h3 n2:=iU.aj b3 (by omega);have c2':=c2.aj b3 (by omega);refine ξ<|ζ<|γ U<|cH U<|γ U<|ε ?_;refine aC<|Γ (agh hC (h0:=h3) (n0:=n1) (b3:=n1) (neg:=neg) (x2:=.p n 0) (χ _) (by omega) jc ?_ _ ((body s).length:Int) [] .ns h3 n2 (χ _) (by omega) (by simp) Sm.nil ?_ c3 ⟨by omega,λ_ _=>rfl⟩ (ig.ns h3 3 1) (Or.inl U) (by omega)) ⟨rfl,rfl,rfl,rfl,trivial⟩
  ·intro l vm h4 n4 E4 l1 l2 l3 l4 l5 l6 l7 s4;refine dQ s4 ?_;have l51:=l5.1;have x4:Ext h n h4 n4:=⟨by omega,λk hk=>by rw[l5.2 k (by omega),e3.2 k hk]⟩;have d2:Cl h4 n4 n [.b false,.ns] 281:=⟨by omega,by rw[l5.2 n (by omega)];exact c2'.2⟩;refine ζ<|ν U (bQ l4.2 rfl)<|ak U U<|yI hC (by omega) l6 <| λng v5 h5 n5 e5 i5 k5=>bL U U ((d2.ext e5).2) (rQ (jx rfl i5.one)) <| λh6 a6 b6=>ε ?_;refine Θ ⟨_,iO rfl (bQ a6 rfl),?_⟩;refine hQ ng v5 (dd l) h6 n5 ((x4.trans e5).aj b6 (χ _)) ((i5.up e5.1).aj b6 (l7.imp k5.2.1 λh=>?_)) (rM l2) (by have:=AM l;omega) (by rw[pG];exact l3);rw[k5.1];omega
  ·rw[Int.toNat_natCast,gM];simp[val]
 cases s with
 | nil=>exact absurd rfl (Mp hf)
 | cons c l=>
  refine ξ<|ζ<|γ U<|lZ U U (by simp)<|bm U U<|ε ?_;refine cB U (λhx=>?_) (λhx=>ae ?_)
  ·simp only[uq,bA]at hx;have hb:body (c::l)=l:=by simp only[body];rw[au (by omega)]
   refine ζ<|ρ U<|bL U U (c3.2) (Ix rfl rfl) <| λh3 a3 b3=>ε ?_;refine aL<|γ U<|Al U U U (by simp) (by omega)<|γ U<|ε ?_;rw[hb]at rest;exact Γ (rest true h3 b3 ⟨c3.1,a3⟩) ⟨by show some (st (List.take _ (List.drop 1 (c::l))))=_;simp,rfl,rfl,trivial⟩
  ·simp only[uq,cV]at hx;have hb:body (c::l)=c::l:=by simp only[body];rw[Ξ (by omega)]
   rw[hb]at rest;exact Γ (rest false h2 (λ_ _=>rfl) c3) ⟨rfl,rfl,rfl,trivial⟩
end
section
variable {C:Nat->Option bN}{h:Hf}{n:K}{Q:V->Hf->K->Prop}
def dv(s:S):List Nat:=s.map λc=>c.toNat - 48
theorem V4(a b:S):dv (a++b)=dv a++dv b:=by simp[dv]
theorem V5(a:S):(dv a).length=a.length:=by simp[dv]
def Fl(x:Nat):UInt8:=UInt8.ofNat (48+x % 10)
theorem V6(x:Nat):(Fl x).toNat=48+x % 10:=by unfold Fl;rw[UInt8.toNat_ofNat'];omega
theorem agi(x:Nat):gL (Fl x)=true:=by simp only[gL,V6,bh,bA];omega
section
variable {x1:V}{h0:Hf}{n0:K}
theorem agj{i4:V}{V0 P x:Nat}{L:Nat}{Q1:Ex->Env->Hf->K->Prop}
 (hQ:∀ds vd h n E',ds.length=L+4->L+4<=10000->(∀c∈ds,gL c=true)->val 10 (dv ds)=V0+10 ^ L*x->Gr h0 n0 h n 5 1 vd ds.length (uC ds)->dK [(k1,x1),(k3,vd),(k4,i4)] E'->Q1 .normal E' h n):
 ∀(j k:Nat) (y:Nat) (ds:S) (vd:V) (h:Hf) (n:K),k+j=4->y<10 ^ j->ds.length=L+k->L+4<=10000->(∀c∈ds,gL c=true)->val 10 (dv ds)+10 ^ (L+k)*y=V0+10 ^ L*x->Gr h0 n0 h n 5 1 vd ds.length (uC ds)->WC C TB [(k1,x1),(k3,vd),(k4,i4),(k5,.i .i64 (y:Nat)),(k6,.i .i64 (k:Nat))] h n (blk 2 Q1):=by
 intro j
 induction j with
 | zero=>
  intro k y ds vd h n hk hy hl hL hd hv hg;have:k=4:=by omega
  subst this;have Yz:y=0:=by simp at hy;exact hy
  subst Yz;refine aJ ?_;refine ξ<|ζ<|γ U<|aO U U<|ε ?_;exact ay U (by simp)<|bM (hQ ds vd h n _ hl hL hd (by simpa using hv) hg ⟨rfl,rfl,rfl,trivial⟩)
 | succ j ih=>
  intro k y ds vd h n hk hy hl hL hd hv hg;refine aJ ?_;refine ξ<|ζ<|γ U<|aO U U<|ε ?_;refine an U (by simp<;>omega)<|ae ?_;have Ba:y<10000:=by have:=ML (k:=j+1) (by omega);omega
  have hdg:=V6 y;refine ξ<|aC<|ζ<|γ U<|γ U<|HL (b:=10) U U (show 0<10 by decide)<|lz U U (show(48:Int)+((y % 10:Nat):Int)=((Fl y).toNat:Nat) by omega) ⟨by omega,by omega⟩<|pB U ⟨by omega,by omega⟩<|lu U <| λh1 n1 dS a1 e1=>yr U ((hg.on e1).own) U (φ.whole (len:=1) (by omega) a1 rfl) (by omega) (by omega) (by omega) (by omega) U ((hg.on e1).lt) <| λv2 h2 n2 sy fM iL kz=>γ U<|ε ?_;have g2:=(hg.on e1).app sy fM iL kz;have e2:uC ds++[V.i .u8 ((Fl y).toNat:Nat)]=uC (ds++[Fl y]):=by rw[Rz];rfl
  rw[e2]at g2;refine aL<|γ U<|Ez (b:=10) U U (show 0<10 by decide) ⟨by omega,by omega⟩<|γ U<|ε ?_;refine aL<|γ U<|cU U U ⟨by omega,by omega⟩<|γ U<|ε ?_;refine Γ (ih (k+1) (y / 10) (ds++[Fl y]) v2 h2 n2 (by omega) ?_ (by simp[hl];omega) hL ?_ ?_ (by rw[oi];exact g2)) ⟨rfl,rfl,rfl,rfl,rfl,trivial⟩
  ·rw[Bp (by omega)];rw[gI]at hy;exact hy
  ·intro c hc;rcases xP.1 hc with hc | hc
   ·exact hd c hc
   ·simp at hc;rw[hc];exact agi y
  ·rw[V4,yG,V5,hl,←hv];have e3:dv [Fl y]=[y % 10]:=by simp[dv,hdg]
   rw[e3];simp only[val,kE,kF];have dm:=xO y 10;have e4:10 ^ (L+(k+1))*(y / 10)=10 ^ (L+k)*(10*(y / 10)):=by rw[←mE,gI,iE]
   rw[e4,mE,←gl];congr 2;omega
theorem agk{b1:K}{neg:Bool}{va:V}{a:List Nat}(fG:a.length<1000)(ha:Sm 10000 a)(c1:Cl h0 n0 b1 [.b neg,va] 281)(ia:aQ h0 n0 .i64 va a){Q1:Ex->Env->Hf->K->Prop}
 (hQ:∀ds vd h n E',ds.length=4*a.length->(∀c∈ds,gL c=true)->val 10 (dv ds)=val 10000 a->Gr h0 n0 h n 5 1 vd ds.length (uC ds)->dK [(k1,.p b1 0),(k3,vd)] E'->Q1 .normal E' h n):
 ∀(m i:Nat) (ds:S) (vd:V) (h:Hf) (n:K),a.length - i=m->i<=a.length->ds.length=4*i->(∀c∈ds,gL c=true)->val 10 (dv ds)=val 10000 (a.take i)->Gr h0 n0 h n 5 1 vd ds.length (uC ds)->WC C TC [(k1,.p b1 0),(k3,vd),(k4,.i .i64 (i:Nat))] h n (blk 0 Q1):=by
 intro m
 induction m with
 | zero=>
  intro i ds vd h n hm hi hl hd hv hg;have:i=a.length:=by omega
  subst this;rw[gM]at hv;have oP:=ia.at_ hg.ext;have OG:=c1.ext hg.ext;refine aJ ?_;refine ξ<|ζ<|γ U<|ρ U<|ν U (OG.ld U _)<|az U (oP)<|aO U U<|ε ?_;exact ay U (by simp)<|bM (hQ ds vd h n _ hl hd hv hg ⟨rfl,rfl,trivial⟩)
 | succ m ih=>
  intro i ds vd h n hm hi hl hd hv hg;have ω:i<a.length:=by omega
  have oP:=ia.at_ hg.ext;have OG:=c1.ext hg.ext;have ga:=oP.get ω 1;refine aJ ?_;refine ξ<|ζ<|γ U<|ρ U<|ν U (OG.ld U _)<|az U (oP)<|aO U U<|ε ?_;refine an U (by simp<;>omega)<|ae ?_;refine ξ<|aC<|ζ<|ρ U<|ν U (OG.ld U _)<|γ U<|bj U U (oP) (ω)<|ν U (ga)<|γ U<|ε ?_;refine ζ<|γ U<|ε ?_;have p1:val 10 (dv ds)+10 ^ (4*i+0)*a[i]=val 10 (dv ds)+10 ^ (4*i)*a[i]:=by rw[kF]
  refine aC<|Γ (agj (P:=0) (V0:=val 10 (dv ds)) (x:=a[i]) (L:=4*i) ?_ 4 0 a[i] ds vd h n rfl (ha.get ω) hl (by omega) hd p1 hg) ⟨rfl,rfl,rfl,rfl,rfl,trivial⟩;intro Jg vd1 h1 n1 E1 q1 q2 q3 q4 q5 s1;refine dQ s1 ?_;refine aL<|γ U<|cU U U ⟨by omega,by omega⟩<|γ U<|ε ?_;refine Γ (ih (i+1) Jg vd1 h1 n1 (by omega) (by omega) (by omega) q3 ?_ q5) ⟨rfl,rfl,rfl,trivial⟩;rw[q4,hv,vS,jm ω];congr 2;rw[Nat.pow_mul]
theorem agl{vd:V}{ds:S}(hl:ds.length<100000)(hd:∀c∈ds,gL c=true)(iv:φ h n 1 vd ds.length (uC ds)){Q1:Ex->Env->Hf->K->Prop}(hp:0<val 10 (dv ds))
 (hQ:∀m E',m<=ds.length->Nz (dv (ds.take m))->val 10 (dv (ds.take m))=val 10 (dv ds)->dK [(k1,x1),(k3,vd),(k7,.i .i64 (m:Nat))] E'->Q1 .normal E' h n):
 ∀m,m<=ds.length->val 10 (dv (ds.take m))=val 10 (dv ds)->WC C TF [(k1,x1),(k3,vd),(k7,.i .i64 (m:Nat))] h n (blk 4 Q1):=by
 intro m
 induction m with
 | zero=>intro _ hv;rw[←hv]at hp;simp[dv,val]at hp
 | succ m ih=>
  intro hm hv;have ω:m<ds.length:=by omega
  have e:((m+1:Nat):Int) - 1=(m:Nat):=by omega
  have hg:aX h false 1 (.p vd.blk (vd.off+m*1))=some (.i .u8 (ds[m].toNat:Nat)):=by rw[lQ];exact iv.get (Ry ω) 1
  have hdm:=AN (hd ds[m] (fW _));have ht:dv (ds.take (m+1))=dv (ds.take m)++[ds[m].toNat - 48]:=by rw[pg ω,V4];rfl
  refine aJ ?_;refine ξ<|ζ<|γ U<|γ U<|mO U U (e) ⟨by omega,by omega⟩<|bj U U (iv) (ω)<|ν U (hg)<|bm U U<|ε ?_;refine cB U (λhx=>?_) (λhx=>?_)
  ·simp only[bA]at hx;refine ae ?_;refine aC<|aL<|γ U<|mO U U (e) ⟨by omega,by omega⟩<|γ U<|ε ?_;refine Γ (ih (by omega) ?_) ⟨rfl,rfl,rfl,trivial⟩;rw[←hv,ht,yG];have:ds[m].toNat - 48=0:=by omega
   simp[this,val]
  ·simp only[cV]at hx;refine bM (hQ (m+1) _ hm ?_ hv ⟨rfl,rfl,rfl,trivial⟩);intro aR;have e2:(dv (ds.take (m+1))).getLast aR=ds[m].toNat - 48:=by simp[ht]
   rw[e2];omega
theorem agm{vd:V}{ds:S}(hl:ds.length<100000)(iv:φ h0 n0 1 vd ds.length (uC ds)){Q1:Ex->Env->Hf->K->Prop}{m0:Nat}(qi:m0<=ds.length)
 (hQ:∀vo h n E',Gr h0 n0 h n 5 1 vo ((ds.take m0).reverse).length (uC (ds.take m0).reverse)->dK [(k8,vo)] E'->Q1 .normal E' h n):
 ∀(j:Nat) (out:S) (vo:V) (h:Hf) (n:K),j<=m0->out=((ds.take m0).drop j).reverse->Gr h0 n0 h n 5 1 vo out.length (uC out)->WC C TH [(k3,vd),(k8,vo),(k9,.i .i64 ((j:Int) - 1))] h n (blk 6 Q1):=by
 intro j
 induction j with
 | zero=>
  intro out vo h n hj ho hg;refine aJ ?_;refine ξ<|ζ<|γ U<|fL U U<|ε ?_;rw[jr]at ho;subst ho;exact ay U (by simp<;>omega)<|bM (hQ vo h n _ hg ⟨rfl,trivial⟩)
 | succ j ih=>
  intro out vo h n hj ho hg;have ω:j<ds.length:=by omega
  have e:((j+1:Nat):Int) - 1=(j:Nat):=by omega
  rw[e];have iv':=iv.at_ hg.ext;have zj:aX h false 1 (.p vd.blk (vd.off+j*1))=some (.i .u8 (ds[j].toNat:Nat)):=by rw[lQ];exact iv'.get (Ry ω) 1
  have A9:out.length<100000:=by rw[ho];simp;omega
  refine aJ ?_;refine ξ<|ζ<|γ U<|fL U U<|ε ?_;refine an U (by simp<;>omega)<|ae ?_;refine ξ<|aC<|aL<|γ U<|γ U<|γ U<|bj U U (iv') (ω)<|ν U (zj)<|lu U <| λh1 n1 dS a1 e1=>yr U ((hg.on e1).own) U (φ.whole (len:=1) (by omega) a1 rfl) (by omega) (by omega) (by omega) (by omega) U ((hg.on e1).lt) <| λv2 h2 n2 sy fM iL kz=>γ U<|ε ?_;have g2:=(hg.on e1).app sy fM iL kz;have e2:uC out++[V.i .u8 (ds[j].toNat:Nat)]=uC (out++[ds[j]]):=by rw[Rz];rfl
  rw[e2]at g2;refine aL<|γ U<|iz U U ⟨by omega,by omega⟩<|γ U<|ε ?_;refine Γ (ih (out++[ds[j]]) v2 h2 n2 (by omega) ?_ (by rw[oi];exact g2)) ⟨rfl,rfl,rfl,trivial⟩;have y9:j<(ds.take m0).length:=by simp;omega
  rw[fC y9,List.reverse_cons,ho];congr 2;simp
end
theorem ago(hC:Cd C){va:V}{a:List Nat}(fG:a.length<1000)(ha:eA 10000 a)(ia:aQ h n .i64 va a)(hQ:∀w h' n',Ext h n h' n'->(w=[49]↔val 10000 a=1)->Q (st w) h' n'):τ C (.f 225 [] []) [.a [.b false,va]] h n Q:=by
 refine τ.go hC.f225 U ?_;have ho:=ia.one;refine ζ<|et U (rfl) (jx rfl ho) <| λh1 n1 dS a1 e1=>γ U<|ε ?_;have c1:Cl h1 n1 n [.b false,va] 281:=⟨by omega,a1⟩;have OD:=(ia.at_ e1).up e1.1;refine ξ<|ζ<|ρ U<|ν U (c1.ld U _)<|az U (OD)<|bm U U<|ε ?_;by_cases h0:a=[]
 ·subst h0;refine an U U ?_;refine ζ<|γ U<|ε ?_;exact Θ ⟨_,rfl,hQ [48] _ _ e1 (by simp[val])⟩
 ·have Gv:0<a.length:=by cases a with | nil=>exact absurd rfl h0 | cons=>simp
  have uA:0<val 10000 a:=xJ λe=>h0 ((val_zero (B:=10000) ha.2 (by omega)).1 e);refine ay U (by simp<;>omega)<|ae ?_;refine ζ<|γ U<|ε ?_;refine ξ<|ζ<|γ U<|ε ?_;refine aC<|Γ (agk (h0:=h1) (n0:=n1) fG ha.1 c1 OD ?_ _ 0 [] .ns h1 n1 rfl (by omega) U (by simp) (by simp[dv,val]) (Gr.ns (Ext.refl h1 n1))) ⟨rfl,rfl,rfl,trivial⟩;intro ds vd h2 n2 E2 q1 q2 q3 q4 s2;refine dQ s2 ?_;have iv:=q4.sl;refine ζ<|γ U<|az U (iv)<|γ U<|ε ?_;refine ξ<|aC<|Γ (agl (x1:=.p n 0) (by omega) q2 iv (by omega) ?_ _ (χ _) (by rw[gM])) ⟨rfl,rfl,rfl,trivial⟩;intro m E3 m1 m2 m3 s3;refine dQ s3 ?_;have c2:=c1.ext q4.ext;refine ζ<|γ U<|ε ?_;refine ξ<|ζ<|ρ U<|ν U (c2.ld U _)<|ε ?_;refine ay U U<|ae ?_;refine ξ<|ζ<|γ U<|iz U U ⟨by omega,by omega⟩<|γ U<|ε ?_;refine aC<|Γ (agm (h0:=h2) (n0:=n2) (by omega) iv m1 ?_ m [] .ns h2 n2 (χ _) (by rw[re (by simp;omega)];rfl) (Gr.ns (Ext.refl h2 n2))) ⟨rfl,rfl,rfl,trivial⟩;intro vo h4 n4 E4 g4 s4;refine dQ s4 ?_;refine ζ<|γ U<|acV U (g4.sl)<|γ U<|ε ?_;refine Θ ⟨_,rfl,hQ _ h4 n4 ((e1.trans q4.ext).trans g4.ext) ?_⟩;have hsm:Sm 10 (dv (ds.take m)):=by intro x hx;simp only[dv,List.mem_map]at hx;obtain⟨c,hc,rfl⟩:=hx;have:=AN (q2 c (wv hc));omega
  rw[←q3,←m3];constructor
  ·intro hw;have:ds.take m=[49]:=by rw[←List.reverse_reverse (ds.take m),hw];rfl
   rw[this];decide
  ·intro hv;have h1:dv (ds.take m)=[1]:=val_inj (B:=10) ⟨hsm,m2⟩ ⟨by intro x hx;simp at hx;omega,λ_=>by simp⟩ (by omega) (by rw[hv];decide);have hlen:(ds.take m).length=1:=by rw[←V5,h1];rfl
   match ug:ds.take m,hlen with
   | [c],_=>
    rw[ug]at h1;simp only[dv,lP,List.map_nil,List.cons.injEq,and_true]at h1;have hc:c∈ds:=wv (by rw[ug];simp);have:=AN (q2 c hc);have:c.toNat=49:=by omega
    rw[show c=49 from UInt8.toNat_inj.1 this];rfl
end
section
variable {C:Nat->Option bN}{h:Hf}{n:K}{Q:V->Hf->K->Prop}
theorem IB{s:S}(h:gu s=0):s.length<=121:=by have:=(Ct h).2;have:=Fb s;omega
theorem agp{s:S}(h:0<s.length):isNeg s=decide (s[0].toNat=45):=by
 cases s with
 | nil=>simp at h
 | cons c l=>rfl
theorem yK(a b:Int):gQ [a,b]=if a≠0 then a else b:=by simp only[gQ];by_cases h:a=0<;>simp[h];by_cases h2:b=0<;>simp[h2]
theorem MO(a b c:Int):gQ [a,b,c]=if a≠0 then a else if b≠0 then b else c:=by simp only[gQ];by_cases h:a=0<;>by_cases h2:b=0<;>by_cases h3:c=0<;>simp[h,h2,h3]
theorem V7(a b c d:Int):gQ [a,b,c,d]=if a≠0 then a else if b≠0 then b else if c≠0 then c else d:=by simp only[gQ];by_cases h:a=0<;>by_cases h2:b=0<;>by_cases h3:c=0<;>by_cases h4:d=0<;>simp[h,h2,h3,h4]
theorem V8(hC:Cd C){s:S}(hlen:s.length<1000000)(hQ:∀h' n',Ext h n h' n'->Q (.i .i64 (nM s)) h' n'):τ C (.f 159 [] []) [st s] h n Q:=by
 refine τ.go hC.f159 U ?_;refine ζ<|γ U<|ε ?_;cases hs:lF s with
 | none=>
  have hv:=ME hs;have key:∀{Q:V->Hf->K->Prop},Q (.u [st [],st [],.b false]) h n->τ C (.f 224 [] []) [st s] h n Q:=λhQ=>VP hC hlen (by rw[hv];exact hQ);refine ζ<|γ U<|ak U U<|key<|γ U<|dG U U<|dG U U<|dG U U<|γ U<|γ U<|γ U<|ε ?_;refine ξ<|ζ<|γ U<|di U<|ε ?_;refine an U U ?_;refine ζ<|γ U<|ε (Θ ⟨_,rfl,by have:=hQ h n (Ext.refl h n);rw[nM,hs]at this;exact this⟩)
 | some pq=>
  obtain⟨p,q⟩:=pq;have hv:AK s=.u [st p,st q,.b true]:=by unfold AK;rw[hs]
  have tN:=afk hs;have key:∀{Q:V->Hf->K->Prop},Q (.u [st p,st q,.b true]) h n->τ C (.f 224 [] []) [st s] h n Q:=λhQ=>VP hC hlen (by rw[hv];exact hQ);simp only[nM,hs]at hQ;refine ζ<|γ U<|ak U U<|key<|γ U<|dG U U<|dG U U<|dG U U<|γ U<|γ U<|γ U<|ε ?_;refine ξ<|ζ<|γ U<|di U<|ε ?_;refine ay U U<|ae ?_;refine ξ<|ζ<|γ U<|ak U U<|Cx hC (by omega)<|γ U<|ak U U<|Cx hC (by omega)<|lu U <| λh1 n1 dS a1 e1=>ak U U<|Gh hC.f30 (l:=[gu p,gu q]) (φ.whole (len:=2) (by omega) a1 rfl) (by simp)<|γ U<|ε ?_;rw[yK];refine ζ<|γ U<|dE U U<|ε ?_;by_cases hp:gu p=0
  ·by_cases hq:gu q=0
   ·refine ay U (by simp[hp,hq])<|ae ?_;simp only[hp,hq,ne_eq,not_true_eq_false,if_false]at hQ;obtain⟨fp,lp⟩:=Ct hp;obtain⟨Gw,lq⟩:=Ct hq;have tN:=IB hp;have Jr:=IB hq;have Dh:0<q.length:=by cases q with | nil=>exact absurd rfl (Mp Gw) | cons=>simp
    have uh:=agp Dh;have jR:∀(b:Bool) h' n',Ext h1 n1 h' n'->b=decide (isNeg q=true\/dec (body q)=0\/Nat.gcd (dec (body p)) (dec (body q))≠1)->Q (.i .i64 (if b then 1 else 0)) h' n':=by
     intro b h' n' e hb;have:=hQ h' n' (e1.trans e);rw[hb];by_cases hc:(isNeg q=true\/dec (body q)=0\/Nat.gcd (dec (body p)) (dec (body q))≠1)
     ·rw[au hc]at this;simpa[hc]using this
     ·rw[Ξ hc]at this;simpa[hc]using this
    by_cases hz:q=[48]
    ·refine ζ<|γ U<|en (b:=[48]) U U<|γ U<|μ U (by simp[hz])<|μ U (by simp[hz])<|μ U (by simp[hz])<|aS U (by simp[hz]) U<|γ U<|μ U (rfl)<|μ U (rfl)<|μ U (rfl)<|μ U (rfl)<|μ U (rfl)<|μ U (rfl)<|μ U (rfl)<|aS U (rfl) U<|ak U U<|qB hC<|γ U<|ε ?_;refine Θ ⟨_,rfl,jR true _ _ (Ext.refl _ _) ?_⟩;have:dec (body q)=0:=(Ms Gw).2 hz;simp[this]
    ·have hz':¬ dec (body q)=0:=λe=>hz ((Ms Gw).1 e);by_cases hn:q[0].toNat=45
     ·refine ζ<|γ U<|en (b:=[48]) U U<|γ U<|κ U (by simp[hz])<|γ U<|κ U (by simp[hz])<|lZ U U (Dh)<|κ U (by simp[hz])<|bm U U<|aK U (by simp[hz]) U<|γ U<|μ U (by simp<;>omega)<|μ U (by simp<;>omega)<|μ U (by simp<;>omega)<|μ U (by simp<;>omega)<|μ U (by simp<;>omega)<|μ U (by simp<;>omega)<|μ U (by simp<;>omega)<|aS U (by simp<;>omega) U<|ak U U<|qB hC<|γ U<|ε ?_;refine Θ ⟨_,rfl,jR true _ _ (Ext.refl _ _) ?_⟩;simp[uh,hn]
     ·refine ζ<|γ U<|en (b:=[48]) U U<|γ U<|κ U (by simp[hz])<|γ U<|κ U (by simp[hz])<|lZ U U (Dh)<|κ U (by simp[hz])<|bm U U<|aK U (by simp[hz]) U<|γ U<|κ U (by simp<;>omega)<|γ U<|κ U (by simp<;>omega)<|ak U U<|V3 hC (by omega) fp <| λna va la h2 n2 e2 i2 q2 l2 v2=>κ U (by simp<;>omega)<|γ U<|κ U (by simp<;>omega)<|ak U U<|V3 hC (by omega) Gw <| λnb vb lb h3 n3 e3 i3 q3 l3 v3=>κ U (by simp<;>omega)<|ak U U<|agc hC (by omega) (by omega) q2 q3 (i2.ext e3) i3 <| λvg g h4 n4 e4 i4 q4 v4=>κ U (by simp<;>omega)<|ak U U<|ago hC (?_) q4 i4 <| λw h5 n5 e5 hw=>κ U (by simp<;>omega)<|iP (b:=[49]) U U<|aK U (by simp<;>omega) U<|ak U U<|qB hC<|γ U<|ε ?_
      ·have gW:0<val 10000 lb:=by rw[v3];omega
       have:=pH (B:=10000) q4.2 q3.1 (by omega) (by rw[v4];exact Nat.le_of_dvd gW (Nat.gcd_dvd_right _ _));omega
      ·refine Θ ⟨_,rfl,jR _ _ _ (((e2.trans e3).trans e4).trans e5) ?_⟩;rw[v4,v2,v3]at hw;by_cases D8:w=[49]
       ·have:=hw.1 D8;simp[D8,this,uh,hn,hz']
       ·have:¬ Nat.gcd (dec (body p)) (dec (body q))=1:=λe=>D8 (hw.2 e);simp[D8,this]
   ·refine an U (by simp[hp,hq]) ?_;simp only[hp,hq,ne_eq,not_true_eq_false,if_false,not_false_eq_true,if_true]at hQ ⊢;refine ζ<|γ U<|γ U<|ε (Θ ⟨_,rfl,hQ _ _ e1⟩)
  ·refine an U (by simp[hp]) ?_;simp only[hp,ne_eq,not_false_eq_true,if_true]at hQ ⊢;refine ζ<|γ U<|γ U<|ε (Θ ⟨_,rfl,hQ _ _ e1⟩)
def isNumeral(s:S):Bool:=decide (gu s=0)||decide (nM s=0)
theorem agq(hC:Cd C){s:S}(hlen:s.length<1000000)(hQ:∀h' n',Ext h n h' n'->Q (.b (isNumeral s)) h' n'):τ C (.f 155 [] []) [st s] h n Q:=by
 refine τ.go hC.f155 U ?_;refine ζ<|γ U<|ε ?_;unfold isNumeral at hQ;by_cases hn:gu s=0
 ·refine ζ<|γ U<|ak U U<|Cx hC hlen<|bm U U<|γ U<|μ U (by simp[hn])<|μ U (by simp[hn])<|μ U (by simp[hn])<|aS U (by simp[hn]) U<|γ U<|ε (Θ ⟨_,rfl,by simpa[hn]using hQ _ _ (Ext.refl _ _)⟩)
 ·refine ζ<|γ U<|ak U U<|Cx hC hlen<|bm U U<|γ U<|κ U (by simp[hn])<|γ U<|κ U (by simp[hn])<|ak U U<|V8 hC hlen <| λh1 n1 e1=>κ U (by simp[hn])<|bm U U<|aK U (by simp[hn]) U<|γ U<|ε (Θ ⟨_,rfl,by simpa[hn]using hQ _ _ e1⟩)
def oQ(c:UInt8):Bool:=!(decide (c.toNat=32)||decide (c.toNat=10)||decide (c.toNat=40)||decide (c.toNat=41)||decide (c.toNat=123)||decide (c.toNat=125))
def rS(s:S):Bool:=!decide (s.length=0)&&(!decide (200<s.length)&&s.all oQ)
theorem ags{s:S}(hl:s.length<1000000):∀(m i:Nat),s.length - i=m->i<=s.length->Q (.b ((s.drop i).all oQ)) h n->WC C TJ [(k0,st s),(k3,.i .i64 (i:Nat))] h n (blk 0 (sq C H8 (fq [.t k2] Q))):=by
 intro m
 induction m with
 | zero=>
  intro i hm hi hQ;refine aJ ?_;refine ξ<|ζ<|γ U<|γ U<|cH U<|aO U U<|ε ?_;refine ay U (by simp<;>omega)<|bM ?_;have:i=s.length:=by omega
  subst this;refine ζ<|γ U<|ε (Θ ⟨_,rfl,by simpa using hQ⟩)
 | succ m ih=>
  intro i hm hi hQ;have ω:i<s.length:=by omega
  rw[fC ω,List.all_cons]at hQ;have yes:oQ s[i]=false->WC C Lx [(bn,.b true)] h n (blk 2 (blk 1 (sq C Ly (sq C (.loop Lz) (blk 0 (sq C H8 (fq [.t k2] Q))))))):=by intro hp;rw[hp]at hQ;refine an U U ?_;refine ζ<|γ U<|ε (Θ ⟨_,rfl,hQ⟩)
  have no:oQ s[i]=true->WC C Lx [(k0,st s),(k3,.i .i64 (i:Nat)),(bn,.b false)] h n (blk 2 (blk 1 (sq C Ly (sq C (.loop Lz) (blk 0 (sq C H8 (fq [.t k2] Q))))))):=by intro hp;rw[hp]at hQ;refine ay U U<|ae ?_;refine aL<|γ U<|cU U U ⟨by omega,by omega⟩<|γ U<|ε ?_;exact Γ (ih (i+1) (by omega) (by omega) (by simpa using hQ)) ⟨rfl,rfl,trivial⟩
  refine aJ ?_;refine ξ<|ζ<|γ U<|γ U<|cH U<|aO U U<|ε ?_;refine an U (by simp<;>omega)<|ae ?_;refine ξ<|aC<|ζ<|γ U<|γ U<|lZ U U (ω)<|ε ?_;generalize hc:s[i]=c at*;refine aC<|ξ<|ζ<|bm U U<|γ U<|ε ?_;refine cB U (λhx=>ae ?_) (λhx=>?_)
  ·simp only[bA]at hx;exact Γ (yes (by simp[oQ];omega)) ⟨by show some (V.b _)=_;simp[hx],trivial⟩
  simp only[cV]at hx;refine ζ<|bm U U<|γ U<|ε ?_;refine cB U (λjA=>ae ?_) (λjA=>?_)
  ·simp only[bA]at jA;exact Γ (yes (by simp[oQ];omega)) ⟨by show some (V.b _)=_;simp[jA],trivial⟩
  simp only[cV]at jA;refine ζ<|bm U U<|γ U<|ε ?_;refine cB U (λmA=>ae ?_) (λmA=>?_)
  ·simp only[bA]at mA;exact Γ (yes (by simp[oQ];omega)) ⟨by show some (V.b _)=_;simp[mA],trivial⟩
  simp only[cV]at mA;refine ζ<|bm U U<|γ U<|ε ?_;refine cB U (λAP=>ae ?_) (λAP=>?_)
  ·simp only[bA]at AP;exact Γ (yes (by simp[oQ];omega)) ⟨by show some (V.b _)=_;simp[AP],trivial⟩
  simp only[cV]at AP;refine ζ<|bm U U<|γ U<|ε ?_;refine cB U (λDi=>ae ?_) (λDi=>?_)
  ·simp only[bA]at Di;exact Γ (yes (by simp[oQ];omega)) ⟨by show some (V.b _)=_;simp[Di],trivial⟩
  simp only[cV]at Di;refine aL<|bm U U<|γ U<|ε ?_;by_cases MP:(c.toNat:Int)=125
  ·exact Γ (yes (by simp[oQ];omega)) ⟨by show some (V.b _)=_;simp[MP],trivial⟩
  ·exact Γ (no (by simp[oQ];omega)) ⟨rfl,rfl,by show some (V.b _)=_;simp[MP],trivial⟩
theorem agt(hC:Cd C){s:S}(hlen:s.length<1000000)(hQ:Q (.b (rS s)) h n):τ C (.f 222 [] []) [st s] h n Q:=by
 refine τ.go hC.f222 U ?_;refine ζ<|γ U<|ε ?_;unfold rS at hQ;by_cases h1:s.length=0
 ·refine ξ<|ζ<|γ U<|cH U<|bm U U<|γ U<|μ U (by simp[h1])<|μ U (by simp[h1])<|μ U (by simp[h1])<|aS U (by simp[h1]) U<|ε ?_;refine an U U ?_;refine ζ<|γ U<|ε (Θ ⟨_,rfl,by simpa[h1]using hQ⟩)
 ·refine ξ<|ζ<|γ U<|cH U<|bm U U<|γ U<|κ U (by simp[h1])<|γ U<|κ U (by simp[h1])<|cH U<|κ U (by simp[h1])<|cS U U<|aK U (by simp[h1]) U<|ε ?_;by_cases h2:200<s.length
  ·refine an U (by simp<;>omega) ?_;refine ζ<|γ U<|ε (Θ ⟨_,rfl,by simpa[h2]using hQ⟩)
  ·refine ay U (by simp<;>omega)<|ae ?_;refine ξ<|ζ<|γ U<|ε ?_;exact aC<|Γ (ags hlen _ 0 rfl (by omega) (by simpa[h1,h2]using hQ)) ⟨rfl,rfl,trivial⟩
theorem V9(hC:Cd C){s:S}(hlen:s.length<1000000)(hQ:Q (.b (rS s)) h n):τ C (.f 156 [] []) [st s] h n Q:=by refine τ.go hC.f156 U ?_;refine ζ<|γ U<|ε ?_;refine ζ<|γ U<|ak U U<|agt hC hlen<|γ U<|ε (Θ ⟨_,rfl,hQ⟩)
theorem MQ(hC:Cd C){op:Int}(hQ:Q (.b (decide (op=17\/op=18))) h n):τ C (.f 154 [] []) [.i .i64 op] h n Q:=by
 refine τ.go hC.f154 U ?_;refine ζ<|γ U<|ε ?_;by_cases h1:op=17
 ·refine ζ<|γ U<|bm U U<|γ U<|μ U (by simp[h1])<|μ U (by simp[h1])<|aS U (by simp[h1]) U<|γ U<|ε (Θ ⟨_,rfl,by simpa[h1]using hQ⟩)
 ·refine ζ<|γ U<|bm U U<|γ U<|κ U (by simp[h1])<|γ U<|κ U (by simp[h1])<|bm U U<|aK U (by simp[h1]) U<|γ U<|ε (Θ ⟨_,rfl,by simpa[h1]using hQ⟩)
theorem agu{v:V}{l:List (S×S)}{name:S}(hv:ep h n v l)(hlen:l.length<1000000):∀(m i:Nat),l.length - i=m->i<=l.length->Q (.i .i64 (qA name (l.drop i) i)) h n->WC C TN [(k0,v),(k1,st name),(k5,.i .i64 (i:Nat))] h n (blk 0 (sq C TP (fq [.t k4] Q))):=by
 intro m
 induction m with
 | zero=>
  intro i hm hi hQ;have:i=l.length:=by omega
  subst this;refine aJ ?_;refine ξ<|ζ<|γ U<|γ U<|az U (hv)<|aO U U<|ε ?_;refine ay U (by simp)<|bM ?_;refine ζ<|γ U<|ε (Θ ⟨_,rfl,by simpa[qA]using hQ⟩)
 | succ m ih=>
  intro i hm hi hQ;have ω:i<l.length:=by omega
  rw[fC ω,qA]at hQ;refine aJ ?_;refine ξ<|ζ<|γ U<|γ U<|az U (hv)<|aO U U<|ε ?_;refine an U (by simp<;>omega)<|ae ?_;refine ξ<|aC<|ζ<|γ U<|γ U<|bj U U (hv) (ω)<|ρ U<|ν U (hv.name ω _)<|γ U<|en U U<|ε ?_;refine cB U (λhx=>?_) (λhx=>ae ?_)
  ·simp only[bA]at hx;rw[au hx]at hQ;refine ζ<|γ U<|γ U<|ε (Θ ⟨_,rfl,hQ⟩)
  ·simp only[cV]at hx;rw[Ξ hx]at hQ;refine aL<|γ U<|cU U U ⟨by omega,by omega⟩<|γ U<|ε ?_;exact Γ (ih (i+1) (by omega) (by omega) hQ) ⟨rfl,rfl,rfl,trivial⟩
theorem agv(hC:Cd C){v:V}{l:List (S×S)}{name:S}(hv:ep h n v l)(hlen:l.length<1000000)(hQ:Q (.i .i64 (qA name l 0)) h n):τ C (.f 157 [] []) [v,st name] h n Q:=by refine τ.go hC.f157 U ?_;refine ζ<|γ U<|ε ?_;refine ξ<|ζ<|γ U<|ε ?_;exact aC<|Γ (agu hv hlen _ 0 rfl (by omega) hQ) ⟨rfl,rfl,rfl,trivial⟩
end
section
variable {C:Nat->Option bN}{h:Hf}{n:K}{Q:V->Hf->K->Prop}
def iV(op:Int)(k:Nat):Bool:=
 if op=0\/op=1\/op=2\/op=3 then decide (k=0) else if op=4\/op=6\/op=7 then true else if op=5 then decide (k=1) else if op=10 then decide (k=3)
 else if op=17\/op=18\/op=19 then decide (1<=k) else decide (k=2)
theorem kc(x:Nd){vv kv:V}(hv:vv.one=true)(hk:kv.one=true):bE (cR x vv kv)=true:=by simp only[cR,bE,hv,hk];rfl
theorem w79(hC:Cd C){x:Nd}{vv kv:V}(hv:vv.one=true)(hk:eL h n .i64 kv x.kids)(hQ:∀h' n',Ext h n h' n'->Q (.b (iV x.op x.kids.length)) h' n'):τ C (.f 79 [] []) [.a (cR x vv kv)] h n Q:=by
 refine τ.go hC.f79 U ?_;refine ζ<|et U (rfl) (kc x hv (φ.one hk)) <| λh1 n1 dS a1 e1=>γ U<|ε ?_;have lo:aX h1 false 1 (.p n (0+0))=some (.i .i64 x.op):=dL a1 rfl _;have lk:aX h1 false 1 (.p n (0+4))=some kv:=dL a1 rfl _;have hQ:=hQ h1 n1 e1;refine ξ<|ζ<|ρ U<|ν U (lo)<|ε ?_;generalize eW:x.op=op at*;have f6:op=0\/op=1\/op=2\/op=3->WC C S3 [(k1,.p n 0),(k5,.b true)] h1 n1 (blk 0 (sq C ET (fq [.t k2] Q))):=by
  intro ho;refine an U U ?_;have e:iV op x.kids.length=decide ((x.kids.length:Int)=0):=by simp only[iV,au ho];simp
  refine ζ<|ρ U<|ν U (lk)<|az U (hk)<|bm U U<|γ U<|ε (Θ ⟨_,rfl,by rw[e]at hQ;exact hQ⟩)
 have f30:¬ (op=0\/op=1\/op=2\/op=3)->¬ (op=4\/op=6\/op=7)->op≠5->op≠10->¬ (op=17\/op=18\/op=19)->WC C ET [(k1,.p n 0)] h1 n1 (fq [.t k2] Q):=by
  intro g1 g2 g3 g4 g5;have e:iV op x.kids.length=decide ((x.kids.length:Int)=2):=by simp only[iV,Ξ g1,Ξ g2,Ξ g3,Ξ g4,Ξ g5];simp;omega
  refine ζ<|ρ U<|ν U (lk)<|az U (hk)<|bm U U<|γ U<|ε (Θ ⟨_,rfl,by rw[e]at hQ;exact hQ⟩)
 refine aC<|ξ<|ζ<|bm U U<|γ U<|ε ?_;refine cB U (λGu=>ae ?_) (λGu=>?_)
 ·simp only[bA]at Gu;exact Γ (f6 (by omega)) ⟨rfl,by show some (V.b _)=_;simp[Gu],trivial⟩
 simp only[cV]at Gu;refine ζ<|bm U U<|γ U<|ε ?_;refine cB U (λqh=>ae ?_) (λqh=>?_)
 ·simp only[bA]at qh;exact Γ (f6 (by omega)) ⟨rfl,by show some (V.b _)=_;simp[qh],trivial⟩
 simp only[cV]at qh;refine ζ<|bm U U<|γ U<|ε ?_;refine cB U (λjA=>ae ?_) (λjA=>?_)
 ·simp only[bA]at jA;exact Γ (f6 (by omega)) ⟨rfl,by show some (V.b _)=_;simp[jA],trivial⟩
 simp only[cV]at jA;refine aL<|bm U U<|γ U<|ε ?_;by_cases mA:op=3
 ·exact Γ (f6 (by omega)) ⟨rfl,by show some (V.b _)=_;simp[mA],trivial⟩
 have g1:¬ (op=0\/op=1\/op=2\/op=3):=by omega
 have f11:op=4\/op=6\/op=7->WC C S2 [(k1,.p n 0),(aP,.b true)] h1 n1 (blk 0 (sq C ET (fq [.t k2] Q))):=by
  intro ho;refine an U U ?_;have e:iV op x.kids.length=true:=by simp only[iV,Ξ g1,au ho]
  refine ζ<|γ U<|ε (Θ ⟨_,rfl,by rw[e]at hQ;exact hQ⟩)
 refine ay U (by simp[mA]) ?_;refine ξ<|ζ<|bm U U<|γ U<|ε ?_;refine cB U (λAP=>ae ?_) (λAP=>?_)
 ·simp only[bA]at AP;exact Γ (f11 (by omega)) ⟨rfl,by show some (V.b _)=_;simp[AP],trivial⟩
 simp only[cV]at AP;refine ζ<|bm U U<|γ U<|ε ?_;refine cB U (λDi=>ae ?_) (λDi=>?_)
 ·simp only[bA]at Di;exact Γ (f11 (by omega)) ⟨rfl,by show some (V.b _)=_;simp[Di],trivial⟩
 simp only[cV]at Di;refine aL<|bm U U<|γ U<|ε ?_;by_cases MP:op=7
 ·exact Γ (f11 (by omega)) ⟨rfl,by show some (V.b _)=_;simp[MP],trivial⟩
 have g2:¬ (op=4\/op=6\/op=7):=by omega
 refine ay U (by simp[MP]) ?_;refine ζ<|bm U U<|γ U<|ε ?_;refine cB U (λGx=>?_) (λGx=>?_)
 ·simp only[bA]at Gx;have e:iV op x.kids.length=decide ((x.kids.length:Int)=1):=by simp only[iV,Ξ g1,Ξ g2,au Gx];simp;omega
  refine ζ<|ρ U<|ν U (lk)<|az U (hk)<|bm U U<|γ U<|ε (Θ ⟨_,rfl,by rw[e]at hQ;exact hQ⟩)
 simp only[cV]at Gx;refine ζ<|bm U U<|γ U<|ε ?_;refine cB U (λJt=>?_) (λJt=>?_)
 ·simp only[bA]at Jt;have e:iV op x.kids.length=decide ((x.kids.length:Int)=3):=by simp only[iV,Ξ g1,Ξ g2,Ξ Gx,au Jt];simp;omega
  refine ζ<|ρ U<|ν U (lk)<|az U (hk)<|bm U U<|γ U<|ε (Θ ⟨_,rfl,by rw[e]at hQ;exact hQ⟩)
 simp only[cV]at Jt;have f18:op=17\/op=18\/op=19->WC C S1 [(k1,.p n 0),(bT,.b true)] h1 n1 (blk 0 (sq C ET (fq [.t k2] Q))):=by
  intro ho;refine an U U ?_;have e:iV op x.kids.length=decide (1<=(x.kids.length:Int)):=by simp only[iV,Ξ g1,Ξ g2,Ξ Gx,Ξ Jt,au ho];simp;omega
  refine ζ<|ρ U<|ν U (lk)<|az U (hk)<|fL U U<|γ U<|ε (Θ ⟨_,rfl,by rw[e]at hQ;exact hQ⟩)
 refine ξ<|ζ<|bm U U<|γ U<|ε ?_;refine cB U (λOH=>ae ?_) (λOH=>?_)
 ·simp only[bA]at OH;exact Γ (f18 (by omega)) ⟨rfl,by show some (V.b _)=_;simp[OH],trivial⟩
 simp only[cV]at OH;refine ζ<|bm U U<|γ U<|ε ?_;refine cB U (λFm=>ae ?_) (λFm=>?_)
 ·simp only[bA]at Fm;exact Γ (f18 (by omega)) ⟨rfl,by show some (V.b _)=_;simp[Fm],trivial⟩
 simp only[cV]at Fm;refine aL<|bm U U<|γ U<|ε ?_;by_cases Wa:op=19
 ·exact Γ (f18 (by omega)) ⟨rfl,by show some (V.b _)=_;simp[Wa],trivial⟩
 refine ay U (by simp[Wa])<|ae ?_;exact Γ (f30 g1 g2 Gx Jt (by omega)) ⟨rfl,trivial⟩
end
end Go.Ev.X
