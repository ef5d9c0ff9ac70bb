/- A part of the proof. -/
import Derived.Test.YtpdbepbhlalldaaGreatDoorD
set_option linter.all false
namespace Go.Ev.X
section
def val(B:Nat):List Nat->Nat
 | []=>0
 | a::l=>a+B*val B l
def Sm(B:Nat)(l:List Nat):Prop:=∀a∈l,a<B
def Nz(l:List Nat):Prop:=∀(h:l≠[]),l.getLast h≠0
def eK(B:Nat)(l:List Nat):Prop:=Sm B l/\Nz l
def dE:List Nat->List Nat
 | []=>[]
 | a::l=>match dE l with
  | []=>if a=0 then [] else [a]
  | b::m=>a::b::m
section
variable {B:Nat}
theorem Sm.nil:Sm B []:=λa h=>by cases h
theorem Sm.cons{a:Nat}{l:List Nat}(h:a<B)(hl:Sm B l):Sm B (a::l):=λx hx=>by
 cases hx with
 | head=>exact h
 | tail _ hx=>exact hl x hx
theorem Sm.tail{a:Nat}{l:List Nat}(h:Sm B (a::l)):Sm B l:=λx hx=>h x (by simp[hx])
theorem Sm.get{l:List Nat}(h:Sm B l){i:Nat}(hi:i<l.length):l[i]<B:=h _ (dU _)
theorem Sm.take{l:List Nat}(h:Sm B l)(i:Nat):Sm B (l.take i):=λx hx=>h x (uE hx)
theorem Sm.set{l:List Nat}(h:Sm B l){i x:Nat}(hx:x<B):Sm B (l.set i x):=λy hy=>by
 rcases List.mem_or_eq_of_mem_set hy with hy | rfl
 ·exact h y hy
 ·exact hx
theorem Sm.getD{l:List Nat}(h:Sm B l)(hB:0<B)(i:Nat):l.getD i 0<B:=by
 rw[fF];by_cases hi:i<l.length
 ·rw[gP hi];exact h.get hi
 ·rw[xr (by omega)];exact hB
theorem Sm.rep(hB:0<B)(n:Nat):Sm B (List.replicate n 0):=λx hx=>by rw[List.eq_of_mem_replicate hx];exact hB
theorem yM(l m:List Nat):val B (l++m)=val B l+B ^ l.length*val B m:=by
 induction l with
 | nil=>simp[val]
 | cons a l ih=>simp only[vM,val,ih,fG,gW,gB,mM];rw[dY (B ^ l.length) B,iX]
theorem Mw(l:List Nat)(i:Nat):val B l=val B (l.take i)+B ^ (l.take i).length*val B (l.drop i):=by rw[←yM,Bk]
theorem pS{l:List Nat}(h:Sm B l):val B l<B ^ l.length:=by
 induction l with
 | nil=>simp[val]
 | cons a l ih=>
  have h1:=ih h.tail;have h2:=h a (by simp);simp only[val,fG,gW];have:B*(val B l+1)<=B*B ^ l.length:=rp _ h1;rw[gB,ka]at this;rw[dY (B ^ l.length)];omega
theorem V7(n:Nat):val B (List.replicate n 0)=0:=by
 induction n with
 | zero=>rfl
 | succ n ih=>simp[Dm,val,ih]
theorem Iw(l:List Nat){i:Nat}(hi:i<l.length)(x:Nat):val B (l.set i x)+B ^ i*l[i]=val B l+B ^ i*x:=by
 induction l generalizing i with
 | nil=>simp at hi
 | cons a l ih=>
  cases i with
  | zero=>simp[val];omega
  | succ i=>
   have mU:i<l.length:=by simpa using hi
   have h:=ih mU;simp only[xC,val,xw,gW];have h1:B*(val B (l.set i x)+B ^ i*l[i])=B*(val B l+B ^ i*x):=by rw[h]
   rw[gB,gB]at h1;rw[dY (B ^ i) B,iX,iX];omega
theorem vi(l:List Nat)(i:Nat):val B (l.take (i+1))=val B (l.take i)+B ^ i*l.getD i 0:=by
 by_cases hi:i<l.length
 ·rw[iy hi,yM];simp only[val,qn,kM,j8];rw[xD (by omega),fF,gP hi];rfl
 ·rw[pF (by omega),pF (by omega),fF,xr (by omega)];simp
theorem As(l:List Nat){i:Nat}(hi:i<l.length):val B (l.drop i)=l[i]+B*val B (l.drop (i+1)):=by rw[gi hi,val]
theorem pT(l:List Nat):val B (dE l)=val B l:=by
 induction l with
 | nil=>rfl
 | cons a l ih=>
  simp only[dE];split
  ·rename_i h;rw[h]at ih;split
   ·rename_i ha;simp only[val,←ih,ha];simp[val]
   ·simp only[val,←ih]
  ·rename_i b m h;rw[h]at ih;rw[val,ih];rfl
theorem af4(l:List Nat):∀x∈dE l,x∈l:=by
 induction l with
 | nil=>intro x h;cases h
 | cons a l ih=>
  intro x hx;simp only[dE]at hx;split at hx
  ·split at hx
   ·cases hx
   ·simp at hx;simp[hx]
  ·rename_i b m h;rw[h]at ih;cases hx with
   | head=>simp
   | tail _ hx=>simp[ih x hx]
theorem V8{l:List Nat}(h:Sm B l):Sm B (dE l):=λx hx=>h x (af4 l x hx)
theorem af5(l:List Nat):Nz (dE l):=by
 induction l with
 | nil=>intro h;exact absurd rfl h
 | cons a l ih=>
  rw[dE];cases hs:dE l with
  | nil=>
   simp only;by_cases ha:a=0
   ·simp only[ha,if_true];intro h;exact absurd rfl h
   ·simp only[ha,if_false];intro h;simpa using ha
  | cons b m=>
   rw[hs]at ih;intro h;have:=ih (by simp);show(a::b::m).getLast _≠0;rw[List.getLast_cons (by simp)];exact this
theorem rR{l:List Nat}(h:Sm B l):eK B (dE l):=⟨V8 h,af5 l⟩
theorem V9{l:List Nat}(h:Nz l):dE l=l:=by
 induction l with
 | nil=>rfl
 | cons a l ih=>
  have hl:Nz l:=λbC=>by have:=h (by simp);rw[List.getLast_cons bC]at this;exact this
  rw[dE,ih hl];cases l with
  | nil=>
   have:=h (by simp);simp at this;simp[this]
  | cons b m=>rfl
theorem af6(l:List Nat):dE (l++[0])=dE l:=by
 induction l with
 | nil=>rfl
 | cons a l ih=>rw[vM,dE,ih,dE]
theorem af7(l:List Nat){x:Nat}(hx:x≠0):dE (l++[x])=l++[x]:=V9 λh=>by simpa using hx
theorem eK.nil:eK B []:=⟨Sm.nil,λh=>absurd rfl h⟩
theorem Ix{l:List Nat}(h:Nz l)(hB:0<B)(bC:l≠[]):B ^ (l.length - 1)<=val B l:=by have h1:=h bC;have h2:l=l.dropLast++[l.getLast bC]:=(List.dropLast_concat_getLast bC).symm;rw[h2,yM];simp only[val,kM,j8,gX,List.length_singleton,Nat.add_sub_cancel,List.length_dropLast];have:B ^ (l.length - 1)*1<=B ^ (l.length - 1)*l.getLast bC:=rp _ (by omega);omega
theorem val_zero{l:List Nat}(h:Nz l)(hB:0<B):val B l=0↔l=[]:=by
 constructor
 ·intro hv;by_cases bC:l=[]
  ·exact bC
  ·have:=Ix h hB bC;have:0<B ^ (l.length - 1):=Nat.pow_pos hB;omega
 ·rintro rfl;rfl
theorem pU{l m:List Nat}(hl:Nz l)(hm:Sm B m)(hB:1<B)(h:val B l<=val B m):l.length<=m.length:=by
 by_cases bC:l=[]
 ·simp[bC]
 ·have h1:=Ix (B:=B) hl (by omega) bC;have h2:=pS hm;by_cases hc:l.length<=m.length
  ·exact hc
  ·have:B ^ m.length<=B ^ (l.length - 1):=zu (by omega) (by omega);omega
theorem val_inj{l m:List Nat}(hl:eK B l)(hm:eK B m)(hB:1<B)(h:val B l=val B m):l=m:=by
 have hlen:l.length=m.length:=Nat.le_antisymm (pU hl.2 hm.1 hB (by omega)) (pU hm.2 hl.1 hB (by omega));have:∀(l m:List Nat),l.length=m.length->Sm B l->Sm B m->val B l=val B m->l=m:=by
  intro l
  induction l with
  | nil=>intro m h _ _ _;cases m with | nil=>rfl | cons=>simp at h
  | cons a l ih=>
   intro m h h1 h2 hv;cases m with
   | nil=>simp at h
   | cons b m=>
    simp only[val]at hv;have ha:=h1 a (by simp);have hb:=h2 b (by simp);have e1:a=b:=by have:=congrArg (· % B) hv;simp only[Nat.add_mul_mod_self_left,zw ha,zw hb]at this;exact this
    subst e1;have e2:val B l=val B m:=Nat.eq_of_mul_eq_mul_left (by omega) (Nat.add_left_cancel hv);rw[ih m (by simpa using h) h1.tail h2.tail e2]
 exact this l m hlen hl.1 hm.1 h
def gJ(a b:Nat):Int:=if a<b then -1 else if b<a then 1 else 0
theorem Wa{l m:List Nat}(hl:eK B l)(hm:eK B m)(hB:1<B)(bC:l.length≠m.length):gJ (val B l) (val B m)=gJ l.length m.length:=by
 by_cases h:l.length<m.length
 ·have hc:¬ val B m<=val B l:=λhc=>by have:=pU hm.2 hl.1 hB hc;omega
  simp[gJ,h,show val B l<val B m by omega]
 ·have hc:¬ val B l<=val B m:=λhc=>by have:=pU hl.2 hm.1 hB hc;omega
  simp[gJ,h,show ¬ val B l<val B m by omega,show val B m<val B l by omega,show m.length<l.length by omega]
theorem Wb{l m:List Nat}(hl:Sm B l)(hm:Sm B m)(hlen:l.length=m.length){i:Nat}(hi:i<l.length)(ha:l.drop (i+1)=m.drop (i+1))(bC:l[i]≠m[i]'(by omega)):
 gJ (val B l) (val B m)=gJ l[i] (m[i]'(by omega)):=by
 have mU:i<m.length:=by omega
 have e1:=Mw (B:=B) l i;have e2:=Mw (B:=B) m i;rw[As l hi,ha]at e1;rw[As m mU]at e2;have t1:=pS (hl.take i);have t2:=pS (hm.take i);have q1:(l.take i).length=i:=by simp;omega
 have q2:(m.take i).length=i:=by simp;omega
 rw[q1]at e1 t1;rw[q2]at e2 t2;generalize val B (List.drop (i+1) m)=X at*;by_cases h:l[i]<m[i]
 ·have:B ^ i*(l[i]+B*X+1)<=B ^ i*(m[i]+B*X):=rp _ (by omega);rw[gB _ _ 1]at this;simp[gJ,h,show val B l<val B m by omega]
 ·have hg:m[i]<l[i]:=by omega
  have:B ^ i*(m[i]+B*X+1)<=B ^ i*(l[i]+B*X):=rp _ (by omega);rw[gB _ _ 1]at this;simp[gJ,h,hg,show ¬ val B l<val B m by omega,show val B m<val B l by omega]
theorem Wc(a:Nat):gJ a a=0:=by simp[gJ]
theorem Cc{l:List Nat}(hl:Sm B l)(hB:0<B)(i:Nat):val B l / B ^ i=val B (l.drop i):=by
 by_cases hi:i<=l.length
 ·have e:=Mw (B:=B) l i;have t:=pS (hl.take i);have q:(l.take i).length=i:=by simp;omega
  rw[q]at e t;rw[e,Nat.add_mul_div_left _ _ (Nat.pow_pos hB),Nat.div_eq_of_lt t,hY]
 ·rw[ql (by omega),val];have h1:=pS hl;have:B ^ l.length<=B ^ i:=zu hB (by omega);exact Nat.div_eq_of_lt (by omega)
theorem yN(l:List Nat)(i:Nat):val B (l.drop i)=l.getD i 0+B*val B (l.drop (i+1)):=by
 by_cases hi:i<l.length
 ·rw[As l hi,fF,gP hi];rfl
 ·rw[ql (by omega),ql (by omega),fF,xr (by omega)];simp[val]
structure Dg(B R b head l2 top next P:Nat):Prop where
 hB:2<=B
 hR:R<B*b
 r1:(head*B+l2)*P<=R
 r2:R<(head*B+l2+1)*P
 b1:(top*B+next)*P<=b
 b2:b<(top*B+next+1)*P
 oz:l2<B
 rS:next<B
 mw:B<=2*top
 hP:0<P
theorem Dg.head{R b head l2 top next P:Nat}(d:Dg B R b head l2 top next P):head<B*(top+1):=by
 obtain⟨hB,hR,r1,r2,b1,b2,oz,rS,mw,hP⟩:=d;have h1:(top*B+next+1)*P<=(B*(top+1))*P:=iw _ (by rw[gB,dY top B];omega);have h2:B*b<B*((B*(top+1))*P):=GI (by omega) (by omega);have h3:(head*B)*P<=(head*B+l2)*P:=iw _ (by omega);have h4:(head*B)*P<(B*(top+1)*B)*P:=by
  have:B*((B*(top+1))*P)=(B*(top+1)*B)*P:=by rw[←iX,dY B (B*(top+1))]
  omega
 have h5:=De h4;exact De h5
theorem Dg.first{R b head l2 top next P:Nat}(d:Dg B R b head l2 top next P):R / b<=head / top/\head / top<=B+1:=by
 have hh:=d.head;obtain⟨hB,hR,r1,r2,b1,b2,oz,rS,mw,hP⟩:=d;have ht:0<top:=by omega
 constructor
 ·rw[Nat.le_div_iff_mul_le ht];have h1:R / b*b<=R:=Nat.div_mul_le_self R b;have h2:R / b*(top*B*P)<=R / b*b:=rp _ (gY (iw _ (by omega)) b1);have h3:(head*B+l2+1)*P<=((head+1)*B)*P:=iw _ (by rw[iO];omega);have h4:(R / b*top*B)*P<((head+1)*B)*P:=by
   have:R / b*(top*B*P)=(R / b*top*B)*P:=by simp only[iX]
   omega
  have h5:=De (De h4);omega
 ·have:head / top<B+2:=by
   rw[Bj ht];have:B*(top+1)<=(B+2)*top:=by rw[gB,iO];omega
   omega
  omega
theorem Dg.down{R b head l2 top next P cL left:Nat}(d:Dg B R b head l2 top next P)(hg:cL*top+left=head)(hq:R / b<=cL)(hc:B<=cL\/left*B+l2<cL*next):R / b<=cL - 1/\0<cL:=by
 obtain⟨hB,hR,r1,r2,b1,b2,oz,rS,mw,hP⟩:=d;have hb:0<b:=by have:0<(top*B+next)*P:=Nat.mul_pos (by have:0<top*B:=Nat.mul_pos (by omega) (by omega);omega) hP;omega
 have ψ:R / b<cL:=by
  cases hc with
  | inl hc=>
   have:R / b<B:=by rw[Bj hb];exact hR
   omega
  | inr hc=>
   rw[Bj hb];have h1:cL*((top*B+next)*P)<=cL*b:=rp _ b1;have h2:(head*B+l2+1)*P<=(cL*(top*B+next))*P:=by
    apply iw;have:cL*(top*B+next)=cL*top*B+cL*next:=by rw[gB,iX]
    rw[this,←hg,iO];omega
   rw[iX]at h2;omega
 exact⟨Nat.le_sub_one_of_lt ψ,Nat.lt_of_le_of_lt (rB _) ψ⟩
theorem Dg.done{R b head l2 top next P cL left:Nat}(d:Dg B R b head l2 top next P)(hg:cL*top+left=head)(ψ:cL<B)(hc:cL*next<=left*B+l2)(hp:P*B<=b):cL*b<R+b:=by
 obtain⟨hB,hR,r1,r2,b1,b2,oz,rS,mw,hP⟩:=d;by_cases h0:cL=0
 ·subst h0;have:0<P*B:=Nat.mul_pos hP (by omega);omega
 have h1:cL*b<cL*((top*B+next+1)*P):=GI b2 (by omega);have h2:(cL*(top*B+next))*P<=(head*B+l2)*P:=by
  apply iw;have:cL*(top*B+next)=cL*top*B+cL*next:=by rw[gB,iX]
  rw[this,←hg,iO];omega
 have h3:cL*((top*B+next+1)*P)=(cL*(top*B+next))*P+cL*P:=by rw[←iX,gB,ka,iO]
 have h4:cL*P<=B*P:=iw _ (by omega);rw[dY B P]at h4;rw[h3]at h1;omega
theorem Dg.brk{R b head l2 top next P cL left:Nat}(d:Dg B R b head l2 top next P)(hg:cL*top+left=head)(hl:B<=left):cL<B/\cL*next<=left*B+l2:=by
 have hh:=d.head;obtain⟨hB,hR,r1,r2,b1,b2,oz,rS,mw,hP⟩:=d;have h1:cL*top<B*top:=by rw[gB]at hh;omega
 have h2:=De h1;refine⟨h2,?_⟩;have h3:cL*next<=B*B:=vO (by omega) (by omega);have h4:B*B<=left*B:=iw _ hl;omega
theorem Wd{R b g:Nat}(hb:0<b)(h1:g*b<=R)(h2:R<g*b+b):R - g*b=R % b:=by
 have:R / b=g:=by
  rw[Nat.div_eq_iff hb];constructor
  ·omega
  ·omega
 have h3:=xB R b;rw[this,dY]at h3;omega
theorem Mx{x a b:Nat}(B:Nat):(x+B*(a % b)) % b=(x+B*a) % b:=by rw[Nat.add_mod,Nat.mul_mod,Nat.mod_mod,←Nat.mul_mod,←Nat.add_mod]
end
end
end Go.Ev.X
namespace Go.Ev.X
open Go Go.Ev
def hX(c:UInt8):Bool:=decide (48<=c.toNat)&&decide (c.toNat<=57)
def body:S->S
 | []=>[]
 | c::l=>if c.toNat=45 then l else c::l
def isNeg:S->Bool
 | []=>false
 | c::_=>decide (c.toNat=45)
def qc:S->Nat
 | []=>0
 | c::_=>c.toNat
def js(s:S):Bool:=
 !decide ((body s).length=0)&&(!decide (s=[45,48])&&(!(decide (1<(body s).length)&&decide (qc (body s)=48))&&(body s).all hX))
def gK(s:S):Int:=if js s then (if 120<(body s).length then 4 else 0) else 1
theorem EI{s:S}(h:js s=true):(∀c∈body s,hX c=true)/\body s≠[]:=by simp only[js,bG,vN,dn,ru]at h;refine⟨h.2.2.2,λe=>h.1 ?_⟩;rw[e];rfl
theorem My{s:S}(h:js s=true):s≠[]:=by intro e;subst e;exact absurd h (by decide)
theorem Ce{s:S}(h:gK s=0):js s=true/\(body s).length<=120:=by
 unfold gK at h;split at h
 ·rename_i hf;split at h
  ·omega
  ·exact⟨hf,by omega⟩
 ·omega
theorem EJ(s:S):(body s).length<=s.length/\s.length<=(body s).length+1:=by
 cases s with
 | nil=>simp[body]
 | cons c l=>simp only[body];split<;>simp
def pb(n:Nat)(s:S):Nat:=s.foldl (λn c=>10*n+(c.toNat - 48)) n
def dec(s:S):Nat:=pb 0 s
theorem af8(s:S):∀n,pb n s=n*10 ^ s.length+dec s:=by
 induction s with
 | nil=>intro n;simp[pb,dec]
 | cons c l ih=>
  intro n;have e1:=ih (10*n+(c.toNat - 48));have e2:=ih (10*0+(c.toNat - 48));simp only[pb,dec,List.foldl_cons,fG]at*;rw[e1,e2,gW,iO,kM,hY,dY 10 n,iX,dY 10,mM]
theorem We(n:Nat)(s:S)(c:UInt8):pb n (s++[c])=10*pb n s+(c.toNat - 48):=by simp[pb]
theorem Iy(a b:S):dec (a++b)=dec a*10 ^ b.length+dec b:=by
 have:dec (a++b)=pb (dec a) b:=by simp[dec,pb]
 rw[this,af8]
theorem dec_lt{s:S}(h:∀c∈s,hX c=true):dec s<10 ^ s.length:=by
 induction s with
 | nil=>simp[dec,pb]
 | cons c l ih=>
  have e:dec (c::l)=(c.toNat - 48)*10 ^ l.length+dec l:=by have:=Iy [c] l;simpa[dec,pb]using this
  have h1:=ih λx hx=>h x (by simp[hx]);have h2:=h c (by simp);simp only[hX,bG,bT]at h2;have h3:(c.toNat - 48)*10 ^ l.length<=9*10 ^ l.length:=iw _ (by omega);rw[e,fG,gW];omega
def cutAt:S->Option (S×S)
 | []=>none
 | c::l=>if c.toNat=47 then some ([],l) else match cutAt l with
  | some (p,q)=>some (c::p,q)
  | none=>none
def iK(s:S):Bool:=s.any λc=>decide (c.toNat=47)
def lL(s:S):Option (S×S):=
 match cutAt s with
 | some (p,q)=>if iK q then none else some (p,q)
 | none=>none
theorem Mz{s:S}(h:iK s=false):cutAt s=none:=by
 induction s with
 | nil=>rfl
 | cons c l ih=>
  simp only[iK,List.any_cons,Dj,dn]at h;simp only[cutAt,h.1,if_false];rw[ih h.2]
theorem MA:∀{s:S} {i:Nat} (hi:i<s.length),iK (s.take i)=false->s[i].toNat=47->cutAt s=some (s.take i,s.drop (i+1)):=by
 intro s
 induction s with
 | nil=>intro i hi;simp at hi
 | cons c l ih=>
  intro i hi h1 h2;cases i with
  | zero=>simp at h2;simp[cutAt,h2]
  | succ i=>
   simp only[sG,iK,List.any_cons,Dj,dn]at h1;simp only[xw]at h2;simp only[cutAt,h1.1,if_false];rw[ih (by simpa using hi) h1.2 h2];simp
theorem af9{s:S}{i:Nat}(hi:i<s.length):iK (s.take (i+1))=(iK (s.take i)||decide (s[i].toNat=47)):=by unfold iK;rw[iy hi,List.any_append];simp only[List.any_cons,List.any_nil,Bool.or_false]
theorem Wf(a b:S):iK (a++b)=(iK a||iK b):=by simp[iK]
theorem Wg{s p q:S}(h:cutAt s=some (p,q)):p.length+q.length+1=s.length:=by
 induction s generalizing p q with
 | nil=>cases h
 | cons c l ih=>
  simp only[cutAt]at h;split at h
  ·cases h;simp
  ·split at h
   ·rename_i p' q' h';cases h;have:=ih h';simp;omega
   ·cases h
theorem aga{s p q:S}(h:lL s=some (p,q)):p.length<s.length/\q.length<s.length:=by
 unfold lL at h;split at h
 ·rename_i p' q' h';split at h
  ·cases h
  ·cases h;have:=Wg h';omega
 ·cases h
def nV(s:S):Int:=
 match lL s with
 | none=>1
 | some (p,q)=>if gK p≠0 then gK p else if gK q≠0 then gK q else
  if isNeg q=true\/dec (body q)=0\/Nat.gcd (dec (body p)) (dec (body q))≠1 then 1 else 0
theorem MC{s:S}(h:js s=true):dec (body s)=0↔s=[48]:=by
 constructor
 ·intro hd;obtain⟨h1,h2⟩:=EI h;simp only[js,bG,vN,dn,Bool.and_eq_false_imp,bT]at h;obtain⟨_,g2,g3,_⟩:=h;have key:∀b:S,b≠[]->(∀c∈b,hX c=true)->(1<b.length->¬ qc b=48)->dec b=0->b=[48]:=by
   intro b hb hc h1 hd;cases b with
   | nil=>exact absurd rfl hb
   | cons c l=>
    have e:dec (c::l)=(c.toNat - 48)*10 ^ l.length+dec l:=by have:=Iy [c] l;simpa[dec,pb]using this
    rw[e]at hd;have hp:0<10 ^ l.length:=Nat.pow_pos (by omega);have hcd:=hc c (by simp);simp only[hX,bG,bT]at hcd;have MD:c.toNat=48:=by
     by_cases h:c.toNat - 48=0
     ·omega
     ·have:1*10 ^ l.length<=(c.toNat - 48)*10 ^ l.length:=iw _ (by omega);omega
    cases l with
    | nil=>rw[show c=48 from UInt8.toNat_inj.1 MD]
    | cons d l=>exact absurd MD (h1 (by simp))
  have hb:=key (body s) h2 h1 g3 hd;cases s with
  | nil=>cases hb
  | cons c l=>
   simp only[body]at hb;split at hb
   ·rename_i hc;subst hb;have:c=45:=UInt8.toNat_inj.1 hc;subst this;exact absurd rfl g2
   ·exact hb
 ·rintro rfl;rfl
end Go.Ev.X
namespace Go.Ev.X
section
section
variable {B:Nat}
theorem EL(x P:Nat)(hP:0<P):x / P*P<=x/\x<(x / P+1)*P:=by refine⟨Nat.div_mul_le_self x P,?_⟩;have:=xB x P;have h2:=mb x hP;rw[iO,Nat.one_mul,dY];omega
theorem agb{b r:List Nat}{size:Nat}(hB:2<=B)(hb:Sm B b)(hl:b.length=size)(h2:2<=size)(mw:B<=2*b.getD (size - 1) 0)(hr:Sm B r)(hR:val B r<B*val B b):
 Dg B (val B r) (val B b) (r.getD size 0*B+r.getD (size - 1) 0) (r.getD (size - 2) 0) (b.getD (size - 1) 0) (b.getD (size - 2) 0) (B ^ (size - 2)):=by
 have hP:0<B ^ (size - 2):=Nat.pow_pos (by omega);have e1:size - 2+1=size - 1:=by omega
 have e2:size - 1+1=size:=by omega
 have vb:val B b / B ^ (size - 2)=b.getD (size - 1) 0*B+b.getD (size - 2) 0:=by rw[Cc hb (by omega),yN,e1,yN,e2,ql (by omega)];simp only[val,kM,j8];rw[dY B,qs]
 have vr:val B r / B ^ (size - 2)=(r.getD size 0*B+r.getD (size - 1) 0)*B+r.getD (size - 2) 0:=by
  have h0:val B (r.drop (size+1))=0:=by rw[←Cc hr (by omega)];apply Nat.div_eq_of_lt;have h3:=pS hb;rw[hl]at h3;have:B*val B b<B*B ^ size:=GI h3 (by omega);rw[gW,dY (B ^ size)];omega
  rw[Cc hr (by omega),yN,e1,yN,e2,yN,h0];simp only[kM,j8];generalize r.getD size 0=x;generalize r.getD (size - 1) 0=y;generalize r.getD (size - 2) 0=z;rw[dY B (y+B*x),dY B x,qs y,qs z]
 have s1:=EL (val B r) _ hP;have s2:=EL (val B b) _ hP;rw[vr]at s1;rw[vb]at s2;exact⟨hB,hR,s1.1,s1.2,s2.1,s2.2,hr.getD (by omega) _,hb.getD (by omega) _,mw,hP⟩
theorem Wi{b:List Nat}{size:Nat}(hB:2<=B)(hb:Sm B b)(hl:b.length=size)(h2:2<=size)(mw:0<b.getD (size - 1) 0):B ^ (size - 2)*B<=val B b:=by
 have hP:0<B ^ (size - 1):=Nat.pow_pos (by omega);have e:val B b / B ^ (size - 1)=b.getD (size - 1) 0:=by rw[Cc hb (by omega),yN,show size - 1+1=size by omega,ql (by omega)];simp[val]
 have s:=(EL (val B b) _ hP).1;rw[e]at s;rw[←gW,show(size - 2).succ=size - 1 by omega];have:1*B ^ (size - 1)<=b.getD (size - 1) 0*B ^ (size - 1):=iw _ mw;omega
theorem agc{b below:List Nat}{H s:Nat}(hB:B=2*H)(hH:1<=H)(hb:eK B b)(h1:1<=b.length)(hs:s=B / (b.getD (b.length - 1) 0+1))(YW:eK B below)(hv:val B below=val B b*s):
 below.length=b.length/\B<=2*below.getD (b.length - 1) 0/\1<=s/\s<B:=by
 have hB2:2<=B:=by omega
 have ji:b.getD (b.length - 1) 0<B:=hb.1.getD (by omega) _;have bC:b≠[]:=λe=>by rw[e]at h1;simp at h1
 have YX:0<b.getD (b.length - 1) 0:=by have:=hb.2 bC;rw[List.getLast_eq_getElem]at this;rw[fF,gP (by omega)];exact xy this
 have hP:0<B ^ (b.length - 1):=Nat.pow_pos (by omega);have ev:val B b / B ^ (b.length - 1)=b.getD (b.length - 1) 0:=by rw[Cc hb.1 (by omega),yN,show b.length - 1+1=b.length by omega,ql (by omega)];simp[val]
 have sp:=EL (val B b) _ hP;rw[ev]at sp;generalize qe:b.getD (b.length - 1) 0=v at*;have s1:1<=s:=by rw[hs];exact(Nat.le_div_iff_mul_le (by omega)).2 (by omega)
 have sB:s*(v+1)<=B:=by rw[hs];exact Nat.div_mul_le_self _ _
 have sB2:B<(s+1)*(v+1):=by have:=(EL B (v+1) (by omega)).2;rw[←hs]at this;exact this
 have s2:s<B:=by have:s*2<=s*(v+1):=rp _ (by omega);omega
 have hpe:B*B ^ (b.length - 1)=B ^ b.length:=by rw[dY,←gW,show(b.length - 1).succ=b.length by omega]
 have ψ:val B below<B ^ b.length:=by
  rw[hv,←hpe];have a1:val B b*s<(v+1)*B ^ (b.length - 1)*s:=Nat.mul_lt_mul_of_pos_right sp.2 (by omega);have a2:(v+1)*B ^ (b.length - 1)*s=s*(v+1)*B ^ (b.length - 1):=by rw[dY _ s,iX]
  have a3:s*(v+1)*B ^ (b.length - 1)<=B*B ^ (b.length - 1):=iw _ sB;omega
 have zb:s*v*B ^ (b.length - 1)<=val B below:=by rw[hv,dY (val B b),iX];exact rp _ sp.1
 have YC:1<=s*v:=Nat.mul_pos s1 YX;have hlen:below.length=b.length:=by
  have l1:below.length<=b.length:=by
   by_cases gz:below=[]
   ·rw[gz];simp
   ·have:=Ix (B:=B) YW.2 (by omega) gz;have:=(Nat.pow_lt_pow_iff_right (a:=B) (by omega)).1 (Nat.lt_of_le_of_lt this ψ);omega
  have l2:b.length - 1<below.length:=by have:=pS YW.1;have h3:1*B ^ (b.length - 1)<=s*v*B ^ (b.length - 1):=iw _ YC;exact(Nat.pow_lt_pow_iff_right (a:=B) (by omega)).1 (by omega)
  omega
 refine⟨hlen,?_,s1,s2⟩;have agd:val B below / B ^ (b.length - 1)=below.getD (b.length - 1) 0:=by rw[Cc YW.1 (by omega),yN,show b.length - 1+1=b.length by omega,ql (by omega)];simp[val]
 have ht:s*v<=below.getD (b.length - 1) 0:=by rw[←agd];exact(Nat.le_div_iff_mul_le hP).2 zb
 have kf:H<=s*v:=by
  by_cases hvH:H<=v
  ·have:1*v<=s*v:=iw _ s1;omega
  ·rcases jR (s*v) H with ψ | h
   ·exfalso;have e1:(s+1)*(v+1)=s*v+s+v+1:=by rw[gB,iO];omega
    have mV:H+1 - v<=s:=by omega
    have h3:(H+1 - v)*v<=s*v:=iw _ mV;obtain⟨x,hx⟩:∃x,H - v=x:=⟨_,rfl⟩;obtain⟨y,hy⟩:∃y,v=y+1:=⟨v - 1,by omega⟩;have h4:(H+1 - v)*v=x*y+x+y+1:=by rw[show H+1 - v=x+1 by omega,hy,gB,iO];omega
    have:0<=x*y:=rB _;omega
   ·exact h
 omega
end
end
end Go.Ev.X
namespace Go.Ev.X
open Go Go.Ev
attribute [local irreducible] WC WO WD SO τ
section
variable {C:Nat->Option bP}{h:Hf}{n:K}{Q:V->Hf->K->Prop}
theorem qf{g:Nat}(hg:C g=some (.go f42)){x:Bool}{e:Int}(hQ:Q (.i .i64 (if x then e else 0)) h n):τ C (.f g [] []) [.b x,.i .i64 e] h n Q:=by
 refine τ.go hg rfl ?_;refine θ<|γ U<|ε ?_;refine ν<|θ<|γ U<|ε ?_;refine di U (λhx=>?_) (λhx=>?_)
 ·refine θ<|γ U<|γ U<|ε (aj ⟨_,rfl,by subst hx;exact hQ⟩)
 ·refine ao ?_;refine θ<|γ U<|ε (aj ⟨_,rfl,by subst hx;exact hQ⟩)
theorem EM{g:Nat}(hg:C g=some (.go f56)){op:Int}(hQ:Q (.b (decide (op=17\/op=18))) h n):τ C (.f g [] []) [.i .i64 op] h n Q:=by
 refine τ.go hg rfl ?_;refine θ<|γ U<|ε ?_;by_cases h1:op=17
 ·refine θ<|γ U<|bQ U U<|γ U<|σ U (by simp[h1])<|σ U (by simp[h1])<|cg U (by simp[h1]) U<|γ U<|ε (aj ⟨_,rfl,by simpa[h1]using hQ⟩)
 ·refine θ<|γ U<|bQ U U<|γ U<|κ U (by simp[h1])<|γ U<|κ U (by simp[h1])<|bQ U U<|bE U (by simp[h1]) U<|γ U<|ε (aj ⟨_,rfl,by simpa[h1]using hQ⟩)
def eD:List Int->Int
 | []=>0
 | a::l=>if a=0 then eD l else a
theorem Wj{l:List Int}{i:Nat}(hi:i<l.length):eD (l.drop i)=if l[i]=0 then eD (l.drop (i+1)) else l[i]:=by rw[gi hi,eD]
theorem age{v:V}{l:List Int}{ik:IntKind}(hv:gh h n .i64 v l)(hlen:l.length<1000000):∀(m i:Nat),l.length - i=m->i<=l.length->(Q (.i .i64 (eD (l.drop i))) h n)->WC C So [(k5,v),(k6,.i .i64 (l.length:Nat)),(k7,.i .i64 (i:Nat)),(k2,.i .i64 0)] h n (blk 0 (sq C Sp (fq [.t k2] Q))):=by
 intro m
 induction m with
 | zero=>
  intro i hm hi hQ;refine aQ ?_;refine θ<|aP U U<|ε ?_;refine ν<|aE U (by simp;omega)<|bW ?_;have:i=l.length:=by omega
  subst this;refine θ<|γ U<|ε (aj ⟨_,rfl,by simpa[eD]using hQ⟩)
 | succ m ih=>
  intro i hm hi hQ;have ψ:i<l.length:=by omega
  refine aQ ?_;refine θ<|aP U U<|ε ?_;refine ν<|aD U (by simp;omega)<|ao ?_;refine ν<|aK<|θ<|bh U U hv ψ<|χ U (hv.get ψ _)<|γ U<|ε ?_;refine θ<|γ U<|fT U U<|ε ?_;rw[Wj ψ]at hQ;refine di U (λhx=>?_) (λhx=>?_)
  ·refine θ<|γ U<|γ U<|ε (aj ⟨_,rfl,by simp at hx;rw[ai hx]at hQ;exact hQ⟩)
  ·refine ao ?_;simp at hx;rw[az hx]at hQ;refine aR<|cK U U ⟨by omega,by omega⟩<|γ U<|ε ?_;exact ae (ih (i+1) (by omega) (by omega) hQ) ⟨rfl,rfl,rfl,rfl,trivial⟩
theorem Ba{g:Nat}(hg:C g=some (.go f41)){v:V}{l:List Int}(hv:gh h n .i64 v l)(hlen:l.length<1000000)(hQ:Q (.i .i64 (eD l)) h n):τ C (.f g [] []) [v] h n Q:=by refine τ.go hg rfl ?_;refine θ<|γ U<|ε ?_;refine ν<|θ<|γ U<|aG U hv<|γ U<|ε ?_;exact aK (ae (age (ik:=.i64) hv hlen _ 0 rfl (by omega) hQ) ⟨rfl,rfl,rfl,rfl,trivial⟩)
theorem agf{v:V}{l:List Int}(hv:gh h n .i64 v l)(hlen:l.length<1000000):∀(m i:Nat),l.length - i=m->i<=l.length->(Q (.i .i64 (eD (l.drop i))) h n)->WC C Ta [(k0,v),(k3,.i .i64 (i:Nat)),(k2,.i .i64 0)] h n (blk 0 (sq C Td (fq [.t k2] Q))):=by
 intro m
 induction m with
 | zero=>
  intro i hm hi hQ;refine aQ ?_;refine ν<|θ<|γ U<|γ U<|aG U hv<|aP U U<|ε ?_;refine aE U (by simp;omega)<|bW ?_;have:i=l.length:=by omega
  subst this;refine θ<|γ U<|ε (aj ⟨_,rfl,by simpa[eD]using hQ⟩)
 | succ m ih=>
  intro i hm hi hQ;have ψ:i<l.length:=by omega
  refine aQ ?_;refine ν<|θ<|γ U<|γ U<|aG U hv<|aP U U<|ε ?_;refine aD U (by simp;omega)<|ao ?_;refine ν<|aK<|θ<|γ U<|γ U<|bh U U hv ψ<|χ U (hv.get ψ _)<|fT U U<|ε ?_;rw[Wj ψ]at hQ;refine di U (λhx=>?_) (λhx=>?_)
  ·refine θ<|γ U<|γ U<|bh U U hv ψ<|χ U (hv.get ψ _)<|γ U<|ε (aj ⟨_,rfl,by simp at hx;rw[ai hx]at hQ;exact hQ⟩)
  ·refine ao ?_;simp at hx;rw[az hx]at hQ;refine aR<|γ U<|cK U U ⟨by omega,by omega⟩<|γ U<|ε ?_;exact ae (ih (i+1) (by omega) (by omega) hQ) ⟨rfl,rfl,rfl,trivial⟩
theorem CW{g:Nat}(hg:C g=some (.go f48)){v:V}{l:List Int}(hv:gh h n .i64 v l)(hlen:l.length<1000000)(hQ:Q (.i .i64 (eD l)) h n):τ C (.f g [] []) [v] h n Q:=by refine τ.go hg rfl ?_;refine θ<|γ U<|ε ?_;refine ν<|θ<|γ U<|ε ?_;exact aK (ae (agf hv hlen _ 0 rfl (by omega) hQ) ⟨rfl,rfl,rfl,trivial⟩)
end
section
variable {C:Nat->Option bP}{h:Hf}{n:K}{Q:V->Hf->K->Prop}
def lM(h:Hf)(n:K)(v:V)(ts:List Nd)(m:List (V×V)):Prop:=
 ∃hm:m.length=ts.length,ρ h n 5 v ts.length (dc ts m)/\∀i (hi:i<ts.length),fC h n (m[i]'(by omega)).1 ts[i].vars/\gh h n .i64 (m[i]'(by omega)).2 ts[i].kids
theorem lM.ext{v:V}{ts:List Nd}{m:List (V×V)}{h':Hf}{n':K}(a:lM h n v ts m)(e:Ext h n h' n'):lM h' n' v ts m:=by obtain⟨hm,h1,h2⟩:=a;exact⟨hm,h1.ext e,λi hi=>⟨(h2 i hi).1.ext e,(h2 i hi).2.ext e⟩⟩
theorem lM.row{v:V}{ts:List Nd}{m:List (V×V)}(a:lM h n v ts m){i:Nat}(hi:i<ts.length):
 ∃vv kv,((dc ts m).drop (i*5)).take 5=dT ts[i] vv kv/\fC h n vv ts[i].vars/\gh h n .i64 kv ts[i].kids:=by
 obtain⟨hm,h1,h2⟩:=a;exact⟨_,_,wo hm hi,(h2 i hi).1,(h2 i hi).2⟩
theorem db.get{v:V}{ts:List Nd}(a:db h n v ts):∃m,lM h n v ts m:=a
def CX(ts:List Nd)(m:List (V×V)):List (List V):=
 (List.range ts.length).map λi=>[.a (((dc ts m).drop (i*5)).take 5++[.i .i64 (i:Nat)])]
theorem Cf(ts:List Nd)(m:List (V×V)):(CX ts m).length=ts.length:=by simp[CX]
theorem EN(ts:List Nd)(m:List (V×V)){i:Nat}(hi:i<(CX ts m).length):(CX ts m)[i]=[.a (((dc ts m).drop (i*5)).take 5++[.i .i64 (i:Nat)])]:=by simp[CX]
theorem ff{cs l:List V}{sz:Nat}(h1:cs.length=sz)(h2:cs.length=l.length)(ho:bN cs=true):mG l 0 0 sz (.a cs)=some cs:=by simp only[mG,V.cells,h1,ho,eW];rw[Rv _ _ h2,dD];simp[Nat.ble]
theorem agh{cs:List V}(hl:cs.length=5)(ho:bN cs=true){E:Env}{k1 k2:K}{i:Int}(h1:lk E k1=some (.a cs))(h2:lk E k2=some (.i .i64 i)):
 iQ E [.i .i64 0,.s 0 0,.s 0 0,.ns,.ns,.i .i64 0] [(0,5,.t k1),(5,1,.t k2)]=some (cs++[.i .i64 i]):=by
 match cs,hl with
 | [a,b,c,d,e],_=>
  simp only[iQ,ge,h1,h2,V.cells,fG,pG,ho,Nat.beq,nN,cond_true,eW,over,bN,V.one];rfl
theorem agi(hC:Cd C){t:V}{ts:List Nd}{m:List (V×V)}{b:K}{e fz:Nat}(hlen:ts.length<1000000):
 Iter C (.f 165 [] [.p b 0]) (λh n=>b.num<n.num/\h b=some (.c [t] e fz)/\lM h n t ts m) (CX ts m):=by
 intro y I D h n hE hF hS h0;refine τ.go hC.f165 U ?_;obtain⟨hb,tx,hm,ht,_⟩:=hF _ _ _ h0;refine θ<|χ U (dV tx rfl _)<|aG U ht<|γ U<|ε ?_;refine aK ?_;have key:∀(r i:Nat) (h:Hf) (n:K),ts.length - i=r->i<=ts.length->I i h n->WC C Sq [(k0,y),(k5,t),(k6,.i .i64 (ts.length:Nat)),(k7,.i .i64 (i:Nat))] h n (blk 0 (fq [] (λv h' n'=>I (CX ts m).length h' n'\/D h' n'))):=by
  intro r
  induction r with
  | zero=>
   intro i h n hr hi hI;have:i=ts.length:=by omega
   subst this;refine aQ ?_;refine θ<|aP U U<|ε ?_;refine ν<|aE U (by simp)<|bW ⟨_,rfl,?_⟩;rw[Cf];exact Or.inl hI
  | succ r ih=>
   intro i h n hr hi hI;have ψ:i<ts.length:=by omega
   obtain⟨hb,tx,hm,ht,hh⟩:=hF _ _ _ hI;have iS:bN (((dc ts m).drop (i*5)).take 5)=true:=by rw[wo hm ψ];have h1:=ρ.one (hh i ψ).1;have h2:=ρ.one (hh i ψ).2;simp only[dT,bN,h1,h2,Bool.and_true];rfl
   have Iz:(((dc ts m).drop (i*5)).take 5).length=5:=by simp[wm hm];omega
   refine aQ ?_;refine θ<|aP U U<|ε ?_;refine ν<|aD U (by simp;omega)<|ao ?_;refine ν<|aK<|θ<|γ U<|bh U U ht ψ<|χ U (ht.nO (by omega) (by omega))<|ea <| λh1 n1 dZ a1 e1=>γ U<|ct U U a1 (ff Iz Iz iS) <| λh2 a2 b2=>ε ?_;have e2:Ext h n h2 n1:=e1.aA b2 (Γ _);refine θ<|γ U<|χ U (cz a2 (oM Iz))<|γ U<|kl (agh Iz iS rfl rfl)<|al U U ?_;have mU:i<(CX ts m).length:=by rw[Cf];exact ψ
   have:=hS i mU h2 n1 (hE _ _ _ _ _ hI e2);rw[EN]at this;refine τ.mono this ?_;rintro v h3 n3 (⟨rfl,hx⟩ | ⟨rfl,hx⟩)
   ·refine dR U<|ε<|aE U U<|ao ?_;refine aR<|cK U U ⟨by omega,by omega⟩<|γ U<|ε ?_;exact ae (ih (i+1) h3 n3 (by omega) (by omega) hx) ⟨rfl,rfl,rfl,rfl,trivial⟩
   ·refine dR U<|ε<|aD U U<|aj ⟨_,rfl,Or.inr hx⟩
 exact ae (key _ 0 h n rfl (by omega) h0) ⟨rfl,rfl,rfl,rfl,trivial⟩
theorem w82(hC:Cd C){t:V}{ts:List Nd}{m:List (V×V)}(hm:lM h n t ts m)(hlen:ts.length<1000000)
 (hQ:∀b e h' n',Ext h n h' n'->h' b=some (.c [t] e 0)->b.num<n'.num->n.num<=b.num->Iter C (.f 165 [] [.p b 0]) (λh n=>b.num<n.num/\h b=some (.c [t] e 0)/\lM h n t ts m) (CX ts m)->Q (.f 165 [] [.p b 0]) h' n'):τ C (.f 82 [] []) [t] h n Q:=by
 have h1:=hm.2.1.one;refine τ.go hC.f82 U ?_;refine θ<|eL U hm.2.1.cells (by simp only[bN,h1];rfl) <| λh1 n1 dZ a1 e1=>γ U<|ε ?_;refine θ<|BW U U<|γ U<|ε (aj ⟨_,rfl,hQ n 23 h1 n1 e1 a1 (by omega) (Γ _) (agi hC hlen)⟩)
def Au(val:Nat->V)(len:Nat):List (List V):=(List.range len).map λi=>[.i .i64 ((len - 1 - i:Nat):Int),val (len - 1 - i)]
theorem tG(val:Nat->V)(len:Nat):(Au val len).length=len:=by simp[Au]
theorem wO(val:Nat->V)(len:Nat){i:Nat}(hi:i<(Au val len).length):(Au val len)[i]=[.i .i64 ((len - 1 - i:Nat):Int),val (len - 1 - i)]:=by simp[Au]
theorem Wk{g:Nat}(hg:C g=some (.go f245)){t:V}{len:Nat}{cs:List V}{val:Nat->V}{b:K}{e fz:Nat}(hlen:len<1000000)(my:∀i,i<len->nth cs i=some (val i)):
 Iter C (.f g [] [.p b 0]) (λh n=>b.num<n.num/\h b=some (.c [t] e fz)/\ρ h n 1 t len cs) (Au val len):=by
 intro y I D h n hE hF hS h0;refine τ.go hg rfl ?_;obtain⟨hb,tx,ht⟩:=hF _ _ _ h0;refine θ<|χ U (dV tx rfl _)<|aG U ht<|jg U U ⟨by omega,by omega⟩<|γ U<|ε ?_;refine aK ?_;have key:∀(i:Nat) (h:Hf) (n:K),i<=len->I (len - i) h n->WC C Sr [(k0,y),(k1,.p b 0),(k3,.i .i64 ((i:Int) - 1))] h n (blk 0 (fq [] (λv h' n'=>I (Au val len).length h' n'\/D h' n'))):=by
  intro i
  induction i with
  | zero=>
   intro h n hi hI;refine aQ ?_;refine ν<|θ<|γ U<|fU U U<|ε ?_;refine aE U (by simp)<|bW ⟨_,rfl,?_⟩;rw[tG];exact Or.inl hI
  | succ i ih=>
   intro h n hi hI;obtain⟨hb,tx,ht⟩:=hF _ _ _ hI;have hii:((i+1:Nat):Int) - 1=(i:Int):=by omega
   rw[hii];refine aQ ?_;refine ν<|θ<|γ U<|fU U U<|ε ?_;refine aD U (by simp)<|ao ?_;have hg:cD h false 1 (.p t.blk (t.off+i*1))=some (val i):=by rw[ka];exact ht.get (my i (by omega)) _
   refine ν<|aK<|θ<|γ U<|γ U<|χ U (dV tx rfl _)<|γ U<|bh U U ht (by omega)<|χ U hg<|al U U ?_;have mU:len - (i+1)<(Au val len).length:=by rw[tG];omega
   have:=hS _ mU h n hI;rw[wO,show len - 1 - (len - (i+1))=i by omega]at this;refine τ.mono this ?_;rintro v h3 n3 (⟨rfl,hx⟩ | ⟨rfl,hx⟩)
   ·refine dR U<|ε<|aE U U<|ao ?_;refine aR<|γ U<|jg U U ⟨by omega,by omega⟩<|γ U<|ε ?_;rw[show len - (i+1)+1=len - i by omega]at hx;exact ae (ih h3 n3 (by omega) hx) ⟨rfl,rfl,rfl,trivial⟩
   ·refine dR U<|ε<|aD U U<|aj ⟨_,rfl,Or.inr hx⟩
 exact ae (key len h n (by omega) (by rw[qp];exact h0)) ⟨rfl,rfl,rfl,trivial⟩
theorem agk(hC:Cd C){t:V}{ik:IntKind}{l:List Int}(ht:gh h n ik t l)(hlen:l.length<1000000)(val:Nat->V)(my:∀i (hi:i<l.length),val i=.i ik l[i])
 (hQ:∀b e h' n',Ext h n h' n'->h' b=some (.c [t] e 0)->b.num<n'.num->n.num<=b.num->Iter C (.f 245 [] [.p b 0]) (λh n=>b.num<n.num/\h b=some (.c [t] e 0)/\gh h n ik t l) (Au val l.length)->Q (.f 245 [] [.p b 0]) h' n'):τ C (.f 186 [] []) [t] h n Q:=by
 have h1:=ρ.one ht;refine τ.go hC.f186 U ?_;refine θ<|eL U (ρ.cells ht) (by simp only[bN,h1];rfl) <| λh1 n1 dZ a1 e1=>γ U<|ε ?_;refine θ<|BW U U<|γ U<|ε (aj ⟨_,rfl,hQ n 85 h1 n1 e1 a1 (by omega) (Γ _) (Wk hC.f245 hlen (λi hi=>by rw[my i hi];exact Lc ik hi))⟩)
theorem agl(hC:Cd C){t:V}{ik:IntKind}{l:List Int}(ht:gh h n ik t l)(hlen:l.length<1000000)(val:Nat->V)(my:∀i (hi:i<l.length),val i=.i ik l[i])
 (hQ:∀b e h' n',Ext h n h' n'->h' b=some (.c [t] e 0)->b.num<n'.num->n.num<=b.num->Iter C (.f 349 [] [.p b 0]) (λh n=>b.num<n.num/\h b=some (.c [t] e 0)/\gh h n ik t l) (Au val l.length)->Q (.f 349 [] [.p b 0]) h' n'):τ C (.f 330 [] []) [t] h n Q:=by
 have h1:=ρ.one ht;refine τ.go hC.f330 U ?_;refine θ<|eL U (ρ.cells ht) (by simp only[bN,h1];rfl) <| λh1 n1 dZ a1 e1=>γ U<|ε ?_;refine θ<|BW U U<|γ U<|ε (aj ⟨_,rfl,hQ n 295 h1 n1 e1 a1 (by omega) (Γ _) (Wk hC.f349 hlen (λi hi=>by rw[my i hi];exact Lc ik hi))⟩)
end
section
variable {C:Nat->Option bP}{h:Hf}{n:K}{Q:V->Hf->K->Prop}
def iT(f:Nat->Nat):List Int->Int->Bool
 | [],_=>true
 | k::l,next=>if k<0\/k≠next - 1 then false else iT f l (f k.toNat)
def rT(ts:List Nd)(i:Nat):List Int:=match ts[i]? with | some x=>x.kids | none=>[]
def tH(ts:List Nd)(l:List Nat)(i:Nat):Nat:=
 match rT ts i with
 | []=>i
 | k::ks=>if iT (λj=>l.getD j 0) (k::ks).reverse i then l.getD k.toNat 0 else i
def fl(ts:List Nd):Nat->List Nat
 | 0=>[]
 | i+1=>fl ts i++[tH ts (fl ts i) i]
def fs(ts:List Nd)(i:Nat):Nat:=(fl ts (i+1)).getD i 0
theorem mZ(ts:List Nd)(m:Nat):(fl ts m).length=m:=by induction m<;>simp_all [fl]
theorem IA(ts:List Nd){i:Nat}:∀{m:Nat},i<m->(fl ts m).getD i 0=fs ts i:=by
 intro m
 induction m with
 | zero=>intro h;omega
 | succ m ih=>
  intro h;by_cases hm:i<m
  ·rw[←ih hm,fl];simp[fF,uD (show i<(fl ts m).length by rw[mZ];exact hm)]
  ·have:i=m:=by omega
   subst this;rfl
theorem Wl{f g:Nat->Nat}:∀{l:List Int} {next:Int},(∀j:Nat,(j:Int)<next->f j=g j/\(f j:Int)<=j)->iT f l next=iT g l next:=by
 intro l
 induction l with
 | nil=>intro next _;rfl
 | cons k l ih=>
  intro next h;simp only[iT];by_cases hk:k<0\/k≠next - 1
  ·simp[hk]
  ·simp only[hk,if_false];have h1:=h k.toNat (by omega);rw[←h1.1];exact ih (λj hj=>h j (by omega))
theorem IB(ts:List Nd):∀{m i:Nat},(fl ts m).getD i 0<=i:=by
 intro m
 induction m with
 | zero=>intro i;simp[fl]
 | succ m ih=>
  intro i;by_cases hm:i<m
  ·rw[fl,fF,uD (by rw[mZ];exact hm),←fF];exact ih
  ·by_cases hi:i=m
   ·subst hi;have:(fl ts (i+1)).getD i 0=tH ts (fl ts i) i:=by
     rw[fl,fF,xu (by rw[mZ];exact Γ _),mZ];simp
    rw[this];unfold tH;split
    ·exact Γ _
    ·rename_i k ks nw;split
     ·rename_i ho;have key:∀(l:List Int) (next:Int),iT (λj=>(fl ts i).getD j 0) l next=true->∀k∈l,k<next/\0<=k:=by
       intro l
       induction l with
       | nil=>intro next _ k hk;cases hk
       | cons a l F5=>
        intro next ho k hk;simp only[iT]at ho;split at ho
        ·cases ho
        ·rename_i hna;cases hk with
         | head=>omega
         | tail _ hk=>
          have:=F5 _ ho k hk;have h2:((fl ts i).getD a.toNat 0)<=a.toNat:=ih;omega
      have:=key _ _ ho k (by simp);have h2:((fl ts i).getD k.toNat 0)<=k.toNat:=ih;omega
     ·exact Γ _
   ·rw[fF,xr (by rw[mZ];omega)];simp
theorem Cg(ts:List Nd)(i:Nat):fs ts i<=i:=IB ts
def ord(ts:List Nd)(i:Nat):Bool:=iT (fs ts) (rT ts i).reverse i
theorem IC(ts:List Nd)(i:Nat){m:Nat}(hm:i<=m):iT (λj=>(fl ts m).getD j 0) (rT ts i).reverse i=ord ts i:=
 Wl λj hj=>⟨IA ts (by omega),by have:=IB ts (m:=m) (i:=j);omega⟩
theorem agn(ts:List Nd)(i:Nat):fs ts i=match rT ts i with | []=>i | k::_=>if ord ts i then fs ts k.toNat else i:=by
 have h1:fs ts i=tH ts (fl ts i) i:=by unfold fs;rw[fl,fF,xu (by rw[mZ];exact Γ _),mZ];simp
 rw[h1];unfold tH;split
 ·rfl
 ·rename_i k ks hk;have:=IC ts i (Γ i);rw[hk]at this;rw[this];by_cases ho:ord ts i=true
  ·simp only[ho,if_true];have ψ:k.toNat<i:=by
    have key:∀(l:List Int) (next:Int),iT (fs ts) l next=true->∀k∈l,k<next/\0<=k:=by
     intro l
     induction l with
     | nil=>intro next _ k hk;cases hk
     | cons a l F5=>
      intro next ho k hk;simp only[iT]at ho;split at ho
      ·cases ho
      ·rename_i hna;cases hk with
       | head=>omega
       | tail _ hk=>have:=F5 _ ho k hk;have:=Cg ts a.toNat;omega
    have:=key _ _ ho k (by rw[hk];simp);omega
   exact IA ts ψ
  ·simp only[ho];rfl
theorem ago(ts:List Nd):∀(l:List Int) (next:Int),iT (fs ts) l next=true->∀k∈l,k<next/\0<=k:=by
 intro l
 induction l with
 | nil=>intro next _ k hk;cases hk
 | cons a l F5=>
  intro next ho k hk;simp only[iT]at ho;split at ho
  ·cases ho
  ·rename_i hna;cases hk with
   | head=>omega
   | tail _ hk=>have:=F5 _ ho k hk;have:=Cg ts a.toNat;omega
theorem Ch{ts:List Nd}{i:Nat}(ho:ord ts i=true):∀k∈rT ts i,k<i/\0<=k:=λk hk=>ago ts _ _ ho k (by simpa using hk)
theorem tI{ts:List Nd}{i:Nat}(hi:i<ts.length):rT ts i=ts[i].kids:=by simp[rT,hi]
theorem agp{t:V}{ts:List Nd}(ht:db h n t ts)(hlen:ts.length<1000000):∀(r i:Nat),i<=r->i<ts.length->(∀j,j<=i->ord ts j=true)->Q (.i .i64 (fs ts i:Nat)) h n->WC C Ss [(k0,t),(k1,.i .i64 (i:Nat))] h n (blk 0 (sq C Su (fq [.t k4] Q))):=by
 intro r
 induction r with
 | zero=>
  intro i hr hi ho hQ;have:i=0:=by omega
  subst this;obtain⟨cs,hs⟩:=ht.sl;obtain⟨vv,kv,hx⟩:=ht.node hi;have hk:ts[0].kids=[]:=by
   have:=Ch (ho 0 (Γ 0));rw[tI hi]at this;cases hk:ts[0].kids with
   | nil=>rfl
   | cons k ks=>have:=this k (by rw[hk];simp);omega
  have hf:fs ts 0=0:=by have:=Cg ts 0;omega
  refine aQ ?_;refine ν<|θ<|γ U<|γ U<|bh U U hs hi<|Ω U<|χ U (hx.ks _)<|aG U hx.kids<|cQ U U<|ε ?_;refine aE U (by simp[hk])<|bW ?_;refine θ<|γ U<|γ U<|ε (aj ⟨_,rfl,by rw[hf]at hQ;exact hQ⟩)
 | succ r ih=>
  intro i hr hi ho hQ;obtain⟨cs,hs⟩:=ht.sl;obtain⟨vv,kv,hx⟩:=ht.node hi;refine aQ ?_;refine ν<|θ<|γ U<|γ U<|bh U U hs hi<|Ω U<|χ U (hx.ks _)<|aG U hx.kids<|cQ U U<|ε ?_;rw[agn,tI hi,ho i (Γ i)]at hQ;have ψ:=Ch (ho i (Γ i));rw[tI hi]at ψ;cases hk:ts[i].kids with
  | nil=>
   rw[hk]at hQ;refine aE U (by simp)<|bW ?_;refine θ<|γ U<|γ U<|ε (aj ⟨_,rfl,hQ⟩)
  | cons k ks=>
   rw[hk]at hQ ψ;have iD:=ψ k (by simp);have h0:0<ts[i].kids.length:=by rw[hk];simp
   have hg:=hx.kids.get h0 1;simp only[hk,sH]at hg;refine aD U (by simp)<|ao ?_;have sQ:k=((k.toNat:Nat):Int):=by omega
   refine aK<|aR<|γ U<|γ U<|bh U U hs hi<|Ω U<|χ U (hx.ks _)<|bh U U hx.kids h0<|χ U hg<|γ U<|ε ?_;rw[sQ];exact ae (ih k.toNat (by omega) (by omega) (λj hj=>ho j (by omega)) (by simpa using hQ)) ⟨rfl,rfl,trivial⟩
theorem ME{g:Nat}(hg:C g=some (.go f102)){t:V}{ts:List Nd}{i:Nat}(ht:db h n t ts)(hlen:ts.length<1000000)(hi:i<ts.length)(ho:∀j,j<=i->ord ts j=true)(hQ:Q (.i .i64 (fs ts i:Nat)) h n):
 τ C (.f g [] []) [t,.i .i64 (i:Nat)] h n Q:=by
 refine τ.go hg rfl ?_;refine θ<|γ U<|ε ?_;exact ν<|aK<|ae (agp ht hlen i i (Γ i) hi ho hQ) ⟨rfl,rfl,trivial⟩
end
section
variable {C:Nat->Option bP}{h:Hf}{n:K}{Q:V->Hf->K->Prop}
def Cl(h:Hf)(n:K)(b:K)(l:List V)(e:Nat):Prop:=b.num<n.num/\h b=some (.c l e 0)
theorem Cl.ext{h h':Hf}{n n' b:K}{l:List V}{e:Nat}(a:Cl h n b l e)(x:Ext h n h' n'):Cl h' n' b l e:=⟨fN a.1 x.1,by rw[x.2 _ a.1];exact a.2⟩
theorem Cl.aA{h h':Hf}{n b k:K}{l:List V}{e:Nat}(a:Cl h n b l e)(x:df k h h')(hk:b.num≠k.num):Cl h' n b l e:=⟨a.1,by rw[x _ hk];exact a.2⟩
theorem Cl.up{h:Hf}{n n' b:K}{l:List V}{e:Nat}(a:Cl h n b l e)(hn:n.num<=n'.num):Cl h n' b l e:=⟨fN a.1 hn,a.2⟩
theorem Cl.ld{h:Hf}{n b:K}{l:List V}{e:Nat}(a:Cl h n b l e){o:Nat}{v:V}(hv:nth l o=some v)(sz:Nat):cD h false sz (.p b o)=some v:=dV a.2 hv sz
theorem agq{f:Nat->Nat}{l:List Int}{j:Nat}{next:Int}(hj:j<l.length):iT f (l.drop j) next=if l[j]<0\/l[j]≠next - 1 then false else iT f (l.drop (j+1)) (f l[j].toNat):=by rw[gi hj,iT]
theorem Wm(x:Nd){vv kv:V}(hv:vv.one=true)(hk:kv.one=true){k:IntKind}{i:Int}:bN (dT x vv kv++[.i k i])=true:=by simp only[dT,vM,List.nil_append,bN,hv,hk,Bool.and_true];rfl
theorem w97(hC:Cd C){t:V}{ts:List Nd}{i:Nat}{vv kv:V}(ht:db h n t ts)(hlen:ts.length<1000000)(hi:i<ts.length)(hk:gh h n .i64 kv ts[i].kids)(eU:ts[i].kids.length<1000000)(hv:vv.one=true)(ho:∀j,j<i->ord ts j=true)
 (hQ:∀h' n',Ext h n h' n'->Q (.b (ord ts i)) h' n'):τ C (.f 97 [] []) [t,.a (dT ts[i] vv kv++[.i .i64 (i:Nat)])] h n Q:=by
 have za:=ht.sl.choose_spec.one;have uk:=ρ.one hk;refine τ.go hC.f97 U ?_;refine θ<|eL U ht.sl.choose_spec.cells (by simp only[bN,za];rfl) <| λh1 n1 dZ a1 e1=>eL U U (Wm _ hv uk) <| λh2 n2 fB a2 e2=>ea <| λh3 n3 lz a3 e3=>ε ?_;have c2:Cl h3 n3 n1 (dT ts[i] vv kv++[.i .i64 (i:Nat)]) 141:=Cl.ext ⟨by omega,a2⟩ e3;refine θ<|Ω U<|χ U (c2.ld U _)<|ea <| λh4 n4 nE a4 e4=>ct U U a4 U <| λh5 a5 b5=>ε ?_;have e5:Ext h n h5 n4:=(((e1.trans e2).trans e3).trans e4).aA b5 (by omega);have c1:Cl h5 n4 n [t] 23:=(((Cl.ext ⟨by omega,a1⟩ e2).ext e3).ext e4).aA b5 (by omega);have c2:Cl h5 n4 n1 (dT ts[i] vv kv++[.i .i64 (i:Nat)]) 141:=(c2.ext e4).aA b5 (by omega);have c3:Cl h5 n4 n2 [.b false] 4:=(Cl.ext ⟨by omega,a3⟩ e4).aA b5 (by omega);have c4:Cl h5 n4 n3 [.i .i64 (i:Nat)] 3:=⟨by omega,a5⟩;refine ν<|θ<|Ω U<|Ω U<|χ U (c2.ld U _)<|al U U<|agk hC (hk.ext e5) eU (λj=>.i .i64 (ts[i].kids.getD j 0)) (λj hj=>by simp[fF,hj]) ?_;intro b e h6 n6 e6 a6 rf fM it;refine ε ?_;let I:Nat->Hf->K->Prop:=λj h' n'=>Ext h n h' n'/\(b.num<n'.num/\h' b=some (.c [kv] e 0)/\gh h' n' .i64 kv ts[i].kids)/\Cl h' n' n [t] 23/\Cl h' n' n2 [.b false] 4/\∃next:Nat,Cl h' n' n3 [.i .i64 (next:Nat)] 3/\next<=i/\iT (fs ts) (ts[i].kids.reverse.drop j) next=ord ts i;let D:Ex->Hf->K->Prop:=λex h' n'=>ex=.ret/\Ext h n h' n'/\Cl h' n' n2 [.b false] 4/\ord ts i=false;refine aK<|BY U it I D ?_ ?_ ?_ ?_ ?_ ?_ ?_ ?_
 ·rintro j h1 n1 h' n' ⟨g1,⟨g2,g3,g4⟩,g5,g6,next,g7,g8,g9⟩ ex;exact⟨g1.trans ex,⟨fN g2 ex.1,by rw[ex.2 _ g2];exact g3,g4.ext ex⟩,g5.ext ex,g6.ext ex,next,g7.ext ex,g8,g9⟩
 ·rintro j h1 n1 h' ⟨g1,⟨g2,g3,g4⟩,g5,g6,next,g7,g8,g9⟩ bt;have:=e5.1;have:=e6.1;have xk:=g1.aA bt (by omega);exact⟨xk,⟨g2,by rw[bt _ (by omega)];exact g3,hk.ext xk⟩,g5.aA bt (by omega),g6.aA bt (by omega),next,g7.aA bt (by omega),g8,g9⟩
 ·rintro j h1 n1 ⟨g1,g2,_⟩;exact g2
 ·intro j hj;rw[wO];rfl
 ·intro h' bt;have:=e5.1;have:=e6.1;have hs:n6.succ.num=n6.num+1:=K.fH n6;have g1:Ext h n h' n6.succ:=((e5.trans e6).aA bt (by omega)).succ;refine⟨g1,⟨by omega,by rw[bt _ (by omega)];exact a6,hk.ext g1⟩,((c1.ext e6).aA bt (by omega)).up (by omega),((c3.ext e6).aA bt (by omega)).up (by omega),i,((c4.ext e6).aA bt (by omega)).up (by omega),Γ i,?_⟩;rw[ord,tI hi];rfl
 ·rintro j hj h1 m1 E1 pz ⟨g1,⟨g2,g3,g4⟩,g5,g6,next,g7,g8,g9⟩ j6;have fb:j<ts[i].kids.length:=by rw[tG]at hj;exact hj
  rw[wO]at j6;simp only[mS,rq]at j6;subst j6;have hjr:j<ts[i].kids.reverse.length:=by simpa using fb
  have my:ts[i].kids.getD (ts[i].kids.length - 1 - j) 0=ts[i].kids.reverse[j]:=by
   have hx:ts[i].kids.length - 1 - j<ts[i].kids.length:=by omega
   rw[List.getElem_reverse,fF,gP hx];rfl
  rw[my];generalize FX:ts[i].kids.reverse[j]=kk at*;rw[agq hjr,FX]at g9;refine aR<|γ U<|ε ⟨rfl,rfl,λh2 bt=>?_⟩;have:=e5.1;have:=e6.1;have c7:=g7.aA bt (by omega);refine aK<|ν ?_;by_cases h0:kk<0
  ·refine θ<|γ U<|aP U U<|γ U<|σ U (by simp[h0])<|σ U (by simp[h0])<|σ U (by simp[h0])<|σ U (by simp[h0])<|cg U (by simp[h0]) U<|ε ?_;refine aD U U ?_;rw[az (Or.inl h0)]at g9;have c6:=g6.aA bt (by omega);refine θ<|ct U U c6.2 U <| λh7 a7 b7=>ε ?_;refine aj ⟨pz,b7 _ (by omega),rfl,(g1.aA bt (by omega)).aA b7 (by omega),⟨by have:=c6.1;omega,a7⟩,g9.symm⟩
  ·by_cases nu:kk=(next:Int) - 1
   ·rw[ai (by omega)]at g9;obtain⟨k',rfl⟩:∃k':Nat,kk=(k':Int):=⟨kk.toNat,by omega⟩;refine θ<|γ U<|aP U U<|γ U<|κ U (by simp<;>omega)<|γ U<|κ U (by simp<;>omega)<|χ U (c7.ld U _)<|κ U (by simp<;>omega)<|jg U U ⟨by omega,by omega⟩<|κ U (by simp<;>omega)<|fT U U<|bE U (by simp<;>omega) U<|ε ?_;refine aE U (by simp[nu])<|ao ?_;refine aR<|χ U ((g5.aA bt (by omega)).ld U _)<|γ U<|al U U<|ME hC.f102 (ht.ext (g1.aA bt (by omega))) hlen (by omega) (λj hj=>ho j (by omega))<|ct U U c7.2 U <| λh7 a7 b7=>ε ?_;have:=g5.1;have:=g6.1;have:=Cg ts k';have q1:=(g1.aA bt (by omega)).aA b7 (by omega);exact⟨pz,b7 _ (by omega),q1,⟨g2,by rw[b7 _ (by omega),bt _ (by omega)];exact g3,hk.ext q1⟩,(g5.aA bt (by omega)).aA b7 (by omega),(g6.aA bt (by omega)).aA b7 (by omega),fs ts k',⟨c7.1,a7⟩,by omega,by simpa using g9⟩
   ·refine θ<|γ U<|aP U U<|γ U<|κ U (by simp[h0])<|γ U<|κ U (by simp[h0])<|χ U (c7.ld U _)<|κ U (by simp[h0])<|jg U U ⟨by omega,by omega⟩<|κ U (by simp[h0])<|fT U U<|bE U (by simp[h0]) U<|ε ?_;refine aD U (by simp[nu]) ?_;rw[az (Or.inr nu)]at g9;have c6:=g6.aA bt (by omega);refine θ<|ct U U c6.2 U <| λh7 a7 b7=>ε ?_;refine aj ⟨pz,b7 _ (by omega),rfl,(g1.aA bt (by omega)).aA b7 (by omega),⟨by have:=c6.1;omega,a7⟩,g9.symm⟩
 ·rintro h' n' pz ⟨g1,⟨g2,g3,g4⟩,g5,g6,next,g7,g8,g9⟩;rw[tG,ql (by simp),iT]at g9;refine θ<|ct U U g6.2 U <| λh7 a7 b7=>ε ?_;refine aj ⟨_,kP rfl (dV a7 rfl _),?_⟩;rw[g9];exact hQ _ _ (g1.aA b7 (by omega))
 ·rintro ex h' n' h2 pz ⟨rfl,g1,g2,g3⟩ bt;have:=e5.1;have:=e6.1;have c2:=g2.aA bt (by omega);refine⟨_,kP rfl (c2.ld U _),?_⟩;rw[←g3];exact hQ _ _ (g1.aA bt (by omega))
end
section
variable {C:Nat->Option bP}{h:Hf}{n:K}{Q:V->Hf->K->Prop}
def tJ(ts:List Nd)(i:Nat):Int:=match ts[i]? with | some x=>x.op | none=>0
theorem EO{ts:List Nd}{i:Nat}(hi:i<ts.length):tJ ts i=ts[i].op:=by simp[tJ,hi]
def nW(ts:List Nd)(op:Int)(len:Nat):List Int->Nat->Bool
 | [],_=>false
 | k::l,j=>(if op=17\/op=18 then decide (tJ ts k.toNat=19)==decide ((j:Int)=len - 1) else decide (tJ ts k.toNat=19))||nW ts op len l (j+1)
def pc(x:Nd)(vv kv:V)(i:Nat):List V:=[.i .i64 x.op,st x.sort,st x.name,vv,kv,.i .i64 (i:Nat)]
theorem Wn(x:Nd)(vv kv:V)(i:Nat):dT x vv kv++[.i .i64 (i:Nat)]=pc x vv kv i:=rfl
theorem Ci(x:Nd){vv kv:V}(hv:vv.one=true)(hk:kv.one=true){i:Nat}:bN (pc x vv kv i)=true:=Wm x hv hk
theorem ags(hC:Cd C){t:V}{ts:List Nd}{x:Nd}{vv kv:V}{i:Nat}{b:K}(ht:db h n t ts)(hlen:ts.length<1000000)(hk:gh h n .i64 kv x.kids)(eU:x.kids.length<1000000)(hr:∀k∈x.kids,0<=k/\k<ts.length)(hb:Cl h n b (pc x vv kv i) 141):
 ∀(r j:Nat),x.kids.length - j=r->j<=x.kids.length->Q (.i .i64 (if nW ts x.op x.kids.length (x.kids.drop j) j then 11 else 0)) h n->WC C Sv [(k0,t),(k3,.p b 0),(aF,kv),(aH,.i .i64 (x.kids.length:Nat)),(aN,.i .i64 (j:Nat))] h n (blk 0 (sq C Sw (fq [.t k4] Q))):=by
 intro r
 induction r with
 | zero=>
  intro j hj CS hQ;have:j=x.kids.length:=by omega
  subst this;refine aQ ?_;refine θ<|aP U U<|ε ?_;refine ν<|aE U (by simp)<|bW ?_;refine θ<|γ U<|ε (aj ⟨_,rfl,by simpa[nW]using hQ⟩)
 | succ r ih=>
  intro j hj CS hQ;have ψ:j<x.kids.length:=by omega
  have j7:=hr x.kids[j] (dU _);rw[gi ψ,nW]at hQ;obtain⟨k',gD⟩:∃k':Nat,x.kids[j]=(k':Int):=⟨x.kids[j].toNat,by omega⟩;have hg:=hk.get ψ 1;rw[gD]at j7 hQ hg;have Av:k'<ts.length:=by omega
  obtain⟨vv',kv',hx⟩:=ht.node Av;obtain⟨cs,hs⟩:=ht.sl;rw[show((k':Int)).toNat=k' from rfl,EO Av]at hQ;refine aQ ?_;refine θ<|aP U U<|ε ?_;refine ν<|aD U (by simp;omega)<|ao ?_;refine ν<|aK<|θ<|γ U<|bh U U hk ψ<|χ U hg<|γ U<|γ U<|ε ?_;refine θ<|γ U<|γ U<|bh U U hs Av<|Ω U<|χ U (hx.op _)<|bQ U U<|γ U<|ε ?_;have next:nW ts x.op x.kids.length (x.kids.drop (j+1)) (j+1)=nW ts x.op x.kids.length (x.kids.drop j) j->True:=λ_=>trivial;by_cases hq:x.op=17\/x.op=18
  ·rw[az hq]at hQ;cases he:(decide (ts[k'].op=19)==decide ((j:Int)=(x.kids.length:Int) - 1):Bool) with
   | true=>
    rw[he]at hQ;refine θ<|Ω U<|Ω U<|χ U (hb.ld U _)<|al U U<|EM hC.f56<|γ U<|κ U (by simp[hq])<|γ U<|κ U (by simp[hq])<|γ U<|κ U (by simp[hq])<|Ω U<|κ U (by simp[hq])<|Ω U<|κ U (by simp[hq])<|χ U (hb.ld U _)<|κ U (by simp[hq])<|aG U hk<|κ U (by simp[hq])<|jg U U ⟨by omega,by omega⟩<|κ U (by simp[hq])<|bQ U U<|κ U (by simp[hq])<|RQ U U<|cg U (by simp[hq]) U<|γ U<|σ U (by exact he)<|σ U (by exact he)<|σ U (by exact he)<|σ U (by exact he)<|σ U (by exact he)<|σ U (by exact he)<|eX U<|σ U (by exact he)<|cg U (by exact he) U<|ε ?_;refine aD U U ?_;refine θ<|γ U<|ε (aj ⟨_,rfl,by simpa using hQ⟩)
   | false=>
    rw[he]at hQ;refine θ<|Ω U<|Ω U<|χ U (hb.ld U _)<|al U U<|EM hC.f56<|γ U<|κ U (by simp[hq])<|γ U<|κ U (by simp[hq])<|γ U<|κ U (by simp[hq])<|Ω U<|κ U (by simp[hq])<|Ω U<|κ U (by simp[hq])<|χ U (hb.ld U _)<|κ U (by simp[hq])<|aG U hk<|κ U (by simp[hq])<|jg U U ⟨by omega,by omega⟩<|κ U (by simp[hq])<|bQ U U<|κ U (by simp[hq])<|RQ U U<|cg U (by simp[hq]) U<|γ U<|κ U (by exact he)<|Ω U<|κ U (by exact he)<|Ω U<|κ U (by exact he)<|χ U (hb.ld U _)<|κ U (by exact he)<|al U U<|EM hC.f56<|κ U (by exact he)<|dR U<|κ U (by exact he)<|γ U<|σ U (by simp[hq])<|κ U (by exact he)<|bE U (by simp[hq]) U<|bE U (by exact he) U<|ε ?_;refine aE U (by simp[hq])<|ao ?_;refine aR<|cK U U ⟨by omega,by omega⟩<|γ U<|ε ?_;exact ae (ih (j+1) (by omega) (by omega) (by simpa using hQ)) ⟨rfl,rfl,rfl,rfl,rfl,trivial⟩
  ·rw[ai hq]at hQ;refine θ<|Ω U<|Ω U<|χ U (hb.ld U _)<|al U U<|EM hC.f56<|γ U<|σ U (by simp[hq])<|σ U (by simp[hq])<|σ U (by simp[hq])<|σ U (by simp[hq])<|σ U (by simp[hq])<|σ U (by simp[hq])<|σ U (by simp[hq])<|σ U (by simp[hq])<|σ U (by simp[hq])<|bE U (by simp[hq]) U<|γ U<|κ U U<|Ω U<|κ U U<|Ω U<|κ U U<|χ U (hb.ld U _)<|κ U U<|al U U<|EM hC.f56<|κ U U<|dR U<|κ U U<|γ U<|κ U (by simp[hq])<|γ U<|κ U U<|cg U (by simp[hq]) U<|bE U U U<|ε ?_;refine di U (λhc=>?_) (λhc=>ao ?_)
   ·rw[hc]at hQ;refine θ<|γ U<|ε (aj ⟨_,rfl,by simpa using hQ⟩)
   ·rw[hc]at hQ;refine aR<|cK U U ⟨by omega,by omega⟩<|γ U<|ε ?_;exact ae (ih (j+1) (by omega) (by omega) (by simpa using hQ)) ⟨rfl,rfl,rfl,rfl,rfl,trivial⟩
theorem w98(hC:Cd C){t:V}{ts:List Nd}{x:Nd}{vv kv:V}{i:Nat}(ht:db h n t ts)(hlen:ts.length<1000000)(hv:vv.one=true)(hk:gh h n .i64 kv x.kids)(eU:x.kids.length<1000000)(hr:∀k∈x.kids,0<=k/\k<ts.length)
 (hQ:∀h' n',Ext h n h' n'->Q (.i .i64 (if nW ts x.op x.kids.length x.kids 0 then 11 else 0)) h' n'):τ C (.f 98 [] []) [t,.a (pc x vv kv i)] h n Q:=by
 refine τ.go hC.f98 U ?_;refine θ<|eL U U (Ci x hv (ρ.one hk)) <| λh1 n1 dZ a1 e1=>γ U<|ε ?_;have c1:Cl h1 n1 n (pc x vv kv i) 141:=⟨by omega,a1⟩;refine ν<|θ<|Ω U<|Ω U<|χ U (c1.ld U _)<|aG U hk<|γ U<|ε ?_;exact aK<|ae (ags hC (ht.ext e1) hlen (hk.ext e1) eU hr c1 _ 0 rfl (by omega) (hQ _ _ e1)) ⟨rfl,rfl,rfl,rfl,rfl,trivial⟩
end
section
variable {C:Nat->Option bP}{h:Hf}{n:K}{Q:V->Hf->K->Prop}
theorem agt(hC:Cd C){p:S×S}{name:S}{b:K}(hb:Cl h n b [st name] 9)(hQ:∀h' n',Ext h n h' n'->Q (.b (decide (p.1=name))) h' n'):τ C (.f 191 [] [.p b 0]) [.a [st p.1,st p.2]] h n Q:=by refine τ.go hC.f191 U ?_;refine θ<|eL U U U <| λh1 n1 dZ a1 e1=>γ U<|ε ?_;refine θ<|Ω U<|χ U (dV a1 rfl _)<|χ U ((hb.ext e1).ld U _)<|gg U U<|γ U<|ε (aj ⟨_,rfl,hQ _ _ e1⟩)
def qI(name:S):List (S×S)->Nat->Int
 | [],_=>-1
 | p::l,i=>if p.1=name then (i:Int) else qI name l (i+1)
theorem agu(name:S):∀(l:List (S×S)) (i:Nat),0<=qI name l i↔name∈l.map Prod.fst:=by
 intro l
 induction l with
 | nil=>intro i;simp[qI]
 | cons p l ih=>
  intro i;simp only[qI];by_cases h:p.1=name
  ·simp[h]
  ·rw[ai h,ih];simp only[ma,fY];have:name≠p.1:=λe=>h e.symm;simp[this]
theorem Wo(name:S)(l:List (S×S))(i:Nat):decide (0<=qI name l i)=decide (name∈l.map Prod.fst):=decide_eq_decide.2 (agu name l i)
theorem agv(hC:Cd C){v:V}{l:List (S×S)}{name:S}{b:K}(hlen:l.length<1000000):∀(r j:Nat) (h:Hf) (n:K),fC h n v l->Cl h n b [st name] 9->l.length - j=r->j<=l.length->(∀h' n',Ext h n h' n'->Q (.i .i64 (qI name (l.drop j) j)) h' n')->WC C SZ [(k0,v),(k1,.f 191 [] [.p b 0]),(k7,.i .i64 (l.length:Nat)),(k8,.i .i64 (j:Nat))] h n (blk 0 (sq C S0 (fq [.t k4] Q))):=by
 intro r
 induction r with
 | zero=>
  intro j h n hv hb hj CS hQ;have:j=l.length:=by omega
  subst this;refine aQ ?_;refine θ<|aP U U<|ε ?_;refine ν<|aE U (by simp)<|bW ?_;refine θ<|γ U<|ε (aj ⟨_,rfl,by simpa[qI]using hQ _ _ (Ext.refl h n)⟩)
 | succ r ih=>
  intro j h n hv hb hj CS hQ;have ψ:j<l.length:=by omega
  rw[gi ψ,qI]at hQ;refine aQ ?_;refine θ<|aP U U<|ε ?_;refine ν<|aD U (by simp;omega)<|ao ?_;refine ν<|aK<|θ<|γ U<|γ U<|ε ?_;refine θ<|γ U<|γ U<|γ U<|bh U U hv ψ<|χ U (hv.nO ψ)<|al U U<|agt hC hb <| λh1 n1 e1=>ε ?_;refine di U (λhc=>?_) (λhc=>ao ?_)
  ·refine θ<|γ U<|γ U<|ε (aj ⟨_,rfl,by have:=hQ _ _ e1;rw[az (by simpa using hc)]at this;exact this⟩)
  ·rw[ai (by simpa using hc)]at hQ;refine aR<|cK U U ⟨by omega,by omega⟩<|γ U<|ε ?_;exact ae (ih (j+1) h1 n1 (hv.ext e1) (hb.ext e1) (by omega) (by omega) (λh' n' e=>hQ _ _ (e1.trans e))) ⟨rfl,rfl,rfl,rfl,trivial⟩
theorem agw(hC:Cd C){v:V}{l:List (S×S)}{name:S}(hv:fC h n v l)(hlen:l.length<1000000)(hQ:∀h' n',Ext h n h' n'->Q (.b (decide (name∈l.map Prod.fst))) h' n'):τ C (.f 106 [] []) [v,st name] h n Q:=by
 refine τ.go hC.f106 U ?_;refine θ<|eL U U U <| λh1 n1 dZ a1 e1=>γ U<|ε ?_;have hb:Cl h1 n1 n [st name] 9:=⟨by omega,a1⟩;have agx:∀{Q:V->Hf->K->Prop},(∀h' n',Ext h1 n1 h' n'->Q (.i .i64 (qI name l 0)) h' n')->τ C (.f 241 [] []) [v,.f 191 [] [.p n 0]] h1 n1 Q:=by intro Q hQ;refine τ.go hC.f241 U ?_;refine θ<|γ U<|ε ?_;refine ν<|θ<|γ U<|aG U hv<|γ U<|ε ?_;exact aK<|ae (agv hC hlen _ 0 h1 n1 (hv.ext e1) hb rfl (by omega) hQ) ⟨rfl,rfl,rfl,rfl,trivial⟩
 have agy:∀{Q:V->Hf->K->Prop},(∀h' n',Ext h1 n1 h' n'->Q (.b (decide (name∈l.map Prod.fst))) h' n')->τ C (.f 181 [] []) [v,.f 191 [] [.p n 0]] h1 n1 Q:=by intro Q hQ;refine τ.go hC.f181 U ?_;refine θ<|γ U<|ε ?_;refine θ<|γ U<|γ U<|al U U<|agx <| λh2 n2 e2=>fU U U<|γ U<|ε (aj ⟨_,rfl,by rw[Wo];exact hQ _ _ e2⟩)
 refine θ<|γ U<|BW U U<|al U U<|agy <| λh2 n2 e2=>γ U<|ε (aj ⟨_,rfl,hQ _ _ (e1.trans e2)⟩)
abbrev nX:S:=[73,110,116]
abbrev pd:S:=[82,101,97,108]
abbrev Cj:S:=[66,111,111,108]
theorem Wp(hC:Cd C){s:S}(hQ:Q (.b (decide (s=nX\/s=pd))) h n):τ C (.f 189 [] []) [st s] h n Q:=by
 refine τ.go hC.f189 U ?_;refine θ<|γ U<|ε ?_;by_cases h1:s=nX
 ·refine θ<|γ U<|gg (b:=[73,110,116]) U U<|γ U<|σ U (by simp[h1])<|σ U (by simp[h1])<|cg U (by simp[h1]) U<|γ U<|ε (aj ⟨_,rfl,by simpa[h1]using hQ⟩)
 ·refine θ<|γ U<|gg (b:=[73,110,116]) U U<|γ U<|κ U (by simp[h1])<|γ U<|κ U (by simp[h1])<|gg (b:=[82,101,97,108]) U U<|bE U (by simp[h1]) U<|γ U<|ε (aj ⟨_,rfl,by simpa[h1]using hQ⟩)
end
section
variable {C:Nat->Option bP}{h:Hf}{n:K}{Q:V->Hf->K->Prop}
def wP(l:List Int)(ks:List Int)(m:Int):Int:=ks.foldl (λm k=>max m (l.getD k.toNat 0)) m
def dl(ts:List Nd):Nat->List Int
 | 0=>[]
 | i+1=>dl ts i++[wP (dl ts i) (rT ts i) 0+1]
def EP(ts:List Nd):Int:=(dl ts ts.length).getD (ts.length - 1) 0
theorem rU(ts:List Nd)(m:Nat):(dl ts m).length=m:=by induction m<;>simp_all [dl]
theorem Wq{l:List Int}{b:Int}:∀(ks:List Int) (m:Int),(∀j,l.getD j 0<=b)->m<=b->wP l ks m<=b/\m<=wP l ks m:=by
 intro ks
 induction ks with
 | nil=>intro m _ hm;exact⟨hm,Int.le_refl _⟩
 | cons k ks ih=>
  intro m hl hm;have:=ih (max m (l.getD k.toNat 0)) hl (by have:=hl k.toNat;omega);simp only[wP,List.foldl_cons]at this ⊢;exact⟨this.1,by omega⟩
theorem MF(ts:List Nd):∀(m j:Nat),(dl ts m).getD j 0<=m/\0<=(dl ts m).getD j 0:=by
 intro m
 induction m with
 | zero=>intro j;simp[dl]
 | succ m ih=>
  intro j;by_cases hj:j<m
  ·rw[dl,fF,uD (by rw[rU];exact hj),←fF];have:=ih j;omega
  ·by_cases hm:j=m
   ·subst hm;have e:(dl ts (j+1)).getD j 0=wP (dl ts j) (rT ts j) 0+1:=by
     rw[dl,fF,xu (by rw[rU];exact Γ _),rU];simp
    rw[e];have:=Wq (l:=dl ts j) (b:=j) (rT ts j) 0 (λk=>(ih k).1) (by omega);omega
   ·rw[fF,xr (by rw[rU];omega)];simp;omega
def dz(ts:List Nd)(i:Nat):List Int:=dl ts i++List.replicate (ts.length - i) 0
theorem Aw{ts:List Nd}{i:Nat}(hi:i<=ts.length):(dz ts i).length=ts.length:=by simp[dz,rU];omega
theorem MG{ts:List Nd}{i k:Nat}(hk:k<i):(dz ts i).getD k 0=(dl ts i).getD k 0:=by rw[dz,fF,uD (by rw[rU];exact hk),←fF]
theorem agz{ts:List Nd}{i:Nat}(hi:i<ts.length):(dz ts i)[i]'(by rw[Aw (by omega)];exact hi)=0:=by unfold dz;rw[List.getElem_append_right (by rw[rU];exact Γ _)];simp
theorem Wr{ts:List Nd}{i:Nat}(hi:i<ts.length):(dz ts i).set i (wP (dl ts i) (rT ts i) 0+1)=dz ts (i+1):=by
 unfold dz;rw[List.set_append_right _ _ (by rw[rU];exact Γ _),rU,qp,dl];have:ts.length - i=(ts.length - (i+1))+1:=by omega
 rw[this,Dm,List.set_cons_zero,uF];rfl
theorem agA{α:Type}(v:α):∀{l:List α} {i:Nat},i<l.length->eW [v] l i=some (l.set i v):=by
 intro l
 induction l with
 | nil=>intro i h;simp at h
 | cons a l ih=>
  intro i h;cases i with
  | zero=>simp[eW,over]
  | succ i=>simp only[eW,ih (by simpa using h),xC]
theorem agB(k:IntKind)(x:Int):∀(l:List Int) (i:Nat),(eI k l).set i (.i k x)=eI k (l.set i x):=by
 intro l
 induction l with
 | nil=>intro i;rfl
 | cons a l ih=>intro i;cases i with
  | zero=>rfl
  | succ i=>simp only[eI,xC,ih]
theorem Ck{k:IntKind}{x:Int}{l:List Int}{i:Nat}(hi:i<l.length)(o:Nat)(ho:o=i):mG (eI k l) 0 o 1 (.i k x)=some (eI k (l.set i x)):=by
 subst ho;have:mG (eI k l) 0 o 1 (.i k x)=eW [.i k x] (eI k l) o:=by simp[mG,V.cells,bN,V.one,jE]
 rw[this,agA _ (by rw[Ee];exact hi),agB]
theorem Ws(k:IntKind):∀m:Nat,gu [.i k 0] m=eI k (List.replicate m 0):=by
 intro m
 induction m with
 | zero=>rfl
 | succ m ih=>simp only[gu,ih,Dm,eI,vM,List.nil_append]
theorem Cl.Jz{b:K}{k:IntKind}{l:List Int}{e len:Nat}(a:Cl h n b (eI k l) e)(hl:l.length=len):gh h n k (.sl b 0 len len) l:=by subst hl;exact ρ.whole a.1 a.2 (by simp[Ee])
theorem ID{l:List Int}{i:Nat}(hi:i<l.length):l.getD i 0=l[i]:=by rw[fF,gP hi];rfl
theorem MH{b:K}(hb:b.num<n.num){o l c:Nat}:cu n (.sl b o l c)=true:=Rr hb
theorem MI(b:K)(o l c:Nat):dH (.sl b o l c) (.sl b o l c)=true:=by simp[dH,K.beq_refl]
section
variable {ts:List Nd}{i:Nat}{vv kv:V}{bl c3 c4:K}{Q1:Ex->Env->Hf->K->Prop}
theorem agC(hlen:ts.length<1000000)(hi:i<ts.length)(eU:ts[i].kids.length<1000000)(hr:∀k∈ts[i].kids,k<i/\0<=k)(zd:bl.num≠c3.num)(A1:bl.num≠c4.num):
 ∀(r j:Nat) (m:Int) (h:Hf),ts[i].kids.length - j=r->j<=ts[i].kids.length->0<=m->m<=i->Cl h n c3 [.sl bl 0 ts.length ts.length] 85->Cl h n c4 (pc ts[i] vv kv i) 141->Cl h n bl (eI .i64 ((dz ts i).set i m)) 3->gh h n .i64 kv ts[i].kids->(kv=.ns\/kv.blk.num≠bl.num)->(∀E' h',df bl h h'->Cl h' n bl (eI .i64 ((dz ts i).set i (wP (dl ts i) (ts[i].kids.drop j) m+1))) 3->Q1 .normal E' h' n)->WC C S2 [(k3,.p c3 0),(k4,.p c4 0),(aV,kv),(aY,.i .i64 (ts[i].kids.length:Nat)),(aU,.i .i64 (j:Nat))] h n (blk 2 (sq C S3 Q1)):=by
 intro r
 induction r with
 | zero=>
  intro j m h hj CS qz hm A8 tK iL hk OO hQ;have:j=ts[i].kids.length:=by omega
  subst this;have MJ:((dz ts i).set i m).length=ts.length:=by simp[Aw (fZ hi)]
  have hI:=iL.Jz MJ;have hg:=hI.get (i:=i) (by omega) 1;simp only[Bt]at hg;refine aQ ?_;refine θ<|aP U U<|ε ?_;refine ν<|aE U (by simp)<|bW ?_;refine aR<|χ U (A8.ld U _)<|Ω U<|χ U (tK.ld U _)<|bh U U hI (by omega)<|χ U hg<|cK U U ⟨by omega,by omega⟩<|bh U U hI (by omega)<|ct U U iL.2 (Ck (i:=i) (by omega) _ (by simp[V.off])) <| λh1 a1 b1=>ε ?_;have b1:df bl h h1:=b1;replace a1:h1 bl=_:=a1;refine hQ _ _ b1 ⟨iL.1,?_⟩;rw[List.set_set]at a1;simpa[wP]using a1
 | succ r ih=>
  intro j m h hj CS qz hm A8 tK iL hk OO hQ;have ψ:j<ts[i].kids.length:=by omega
  have j7:=hr ts[i].kids[j] (dU _);have JA:=hk.get ψ 1;rw[gi ψ]at hQ;obtain⟨k',gD⟩:∃k':Nat,ts[i].kids[j]=(k':Int):=⟨ts[i].kids[j].toNat,by omega⟩;rw[gD]at j7 JA hQ;have MJ:((dz ts i).set i m).length=ts.length:=by simp[Aw (fZ hi)]
  have hI:=iL.Jz MJ;have hg:=hI.get (i:=i) (by omega) 1;simp only[Bt]at hg;have MK:=hI.get (i:=k') (by omega) 1;rw[Bo (by omega)]at MK;have hx:(dz ts i)[k']'(by rw[Aw (by omega)];omega)=(dl ts i).getD k' 0:=by rw[←MG (by omega),ID]
  rw[hx]at MK;have qJ:=MF ts i k';refine aQ ?_;refine θ<|aP U U<|ε ?_;refine ν<|aD U (by simp;omega)<|ao ?_;refine ν<|aK<|θ<|bh U U hk ψ<|χ U JA<|γ U<|ε ?_;refine wj<|bc U (A8.ld U _) (MH iL.1) (MI _ _ _ _)<|dG U<|bc U (tK.ld U _) U (gS _ _)<|bc U (A8.ld U _) (MH iL.1) (MI _ _ _ _)<|dG U<|bc U (tK.ld U _) U (gS _ _)<|et U U hI (by omega)<|bc U hg U (gS _ _)<|bc U (A8.ld U _) (MH iL.1) (MI _ _ _ _)<|aL U<|et U U hI (by omega)<|bc U MK U (gS _ _)<|adk U U<|et U U hI (by omega)<|gH U U iL.2 (Ck (i:=i) (by omega) _ (by simp[V.off])) <| λh1 a1 b1=>dQ (by simp[AG,mn,pv,Nat.testBit]) ?_;have b1:df bl h h1:=b1;replace a1:h1 bl=_:=a1;rw[List.set_set]at a1;refine aR<|cK U U ⟨by omega,by omega⟩<|γ U<|ε ?_;refine ae (ih (j+1) (max m ((dl ts i).getD k' 0)) h1 (by omega) (by omega) (by omega) (by omega) (A8.aA b1 (by omega)) (tK.aA b1 (by omega)) ⟨iL.1,a1⟩ (ρ.aA hk b1 OO) OO ?_) ⟨rfl,rfl,rfl,rfl,rfl,trivial⟩;intro E' h' bb cc;exact hQ E' h' (λk hk=>by rw[bb k hk,b1 k hk]) (by simpa[wP]using cc)
end
theorem agD(hC:Cd C){t:V}{ts:List Nd}(ht:db h n t ts)(hlen:ts.length<1000000)(h0:0<ts.length)(eU:∀i (hi:i<ts.length),ts[i].kids.length<1000000)(ho:∀j,j<ts.length->ord ts j=true)
 (hQ:∀h' n',Ext h n h' n'->Q (.i .i64 (EP ts)) h' n'):τ C (.f 103 [] []) [t] h n Q:=by
 obtain⟨m,tm⟩:=ht.get;refine τ.go hC.f103 U ?_;obtain⟨cs,hs⟩:=ht.sl;refine θ<|γ U<|ε ?_;refine θ<|γ U<|aG U hs<|uX U U (by omega) (by omega) <| λh1 n1 dZ a1 e1=>ea <| λh2 n2 fB a2 e2=>ct U U a2 U <| λh3 a3 b3=>ε ?_;have x3:Ext h n h3 n2:=(e1.trans e2).aA b3 (by omega);have c1:Cl h3 n2 n (eI .i64 (dz ts 0)) 3:=by refine((Cl.ext ⟨by omega,?_⟩ e2)).aA b3 (by omega);rw[a1,Ws];simp[dz,dl]
 have c2:Cl h3 n2 n1 [.sl n 0 ts.length ts.length] 85:=⟨by omega,a3⟩;refine ν<|θ<|γ U<|al U U<|w82 hC (tm.ext x3) hlen ?_;intro b e h4 n4 x4 a4 A1 agE it;refine ε<|aK ?_;let I:Nat->Hf->K->Prop:=λi h' n'=>Ext h n h' n'/\(b.num<n'.num/\h' b=some (.c [t] e 0))/\Cl h' n' n (eI .i64 (dz ts i)) 3/\Cl h' n' n1 [.sl n 0 ts.length ts.length] 85;have y1:=x3.1;have y2:=x4.1;refine BY U it I (λ_ _ _=>False) ?_ ?_ ?_ ?_ ?_ ?_ ?_ ?_
 ·rintro j h1 n1 h' n' ⟨g1,⟨g2,g3⟩,g5,g6⟩ ex;exact⟨g1.trans ex,⟨fN g2 ex.1,by rw[ex.2 _ g2];exact g3⟩,g5.ext ex,g6.ext ex⟩
 ·rintro j h1 n1 h' ⟨g1,⟨g2,g3⟩,g5,g6⟩ bt;have xk:=g1.aA bt (by omega);exact⟨xk,⟨g2,by rw[bt _ (by omega)];exact g3⟩,g5.aA bt (by omega),g6.aA bt (by omega)⟩
 ·rintro j h1 n1 ⟨g1,g2,_⟩;exact⟨g2.1,g2.2,tm.ext g1⟩
 ·intro j hj;rw[EN];rfl
 ·intro h' bt;have hs:n4.succ.num=n4.num+1:=K.fH n4;have g1:Ext h n h' n4.succ:=((x3.trans x4).aA bt (by omega)).succ;exact⟨g1,⟨by omega,by rw[bt _ (by omega)];exact a4⟩,((c1.ext x4).aA bt (by omega)).up (by omega),((c2.ext x4).aA bt (by omega)).up (by omega)⟩
 ·rintro j hj h1 m1 E1 pz ⟨g1,⟨g2,g3⟩,g5,g6⟩ j6;have fb:j<ts.length:=by rw[Cf]at hj;exact hj
  rw[EN]at j6;simp only[mS,rq]at j6;subst j6;obtain⟨vv,kv,iS,qe,m6⟩:=tm.row fb;rw[iS,Wn];have eF:=Ci ts[j] (ρ.one qe) (ρ.one m6) (i:=j);refine aR<|ea <| λh5 n5 qK a5 e5=>ct U U a5 (ff rfl rfl eF) <| λh6 a6 b6=>ε ⟨rfl,by rw[b6 _ (by omega),e5.2 _ pz],λh7 b7=>?_⟩;have c4:Cl h7 n5 m1 (pc ts[j] vv kv j) 141:=(Cl.aA ⟨by omega,a6⟩ b7 (by omega));have x7:Ext h n h7 n5:=((g1.trans e5).aA b6 (by omega)).aA b7 (by omega);have hk7:=m6.ext x7;have agG:=eU j fb;refine aK ?_;refine ν<|θ<|Ω U<|Ω U<|χ U (c4.ld U _)<|aG U hk7<|γ U<|ε ?_;refine aK ?_;refine ae (agC (i:=j) (vv:=vv) (c3:=n1) (c4:=m1) (bl:=n) hlen fb agG (by have:=Ch (ho j fb);rw[tI fb]at this;exact this) (by omega) (by omega) _ 0 0 h7 rfl (by omega) (by omega) (by omega) (((g6.ext e5).aA b6 (by omega)).aA b7 (by omega)) c4 ?_ hk7 ?_ ?_) ⟨rfl,rfl,rfl,rfl,rfl,trivial⟩
  ·have:=((g5.ext e5).aA b6 (by omega)).aA b7 (by omega);have e0:(dz ts j).set j 0=dz ts j:=by
    apply Dk (by simp);intro k h1 h2;rw[List.getElem_set];split
    ·rename_i hk;subst hk;exact(agz fb).symm
    ·rfl
   rw[e0];exact this
  ·cases ρ.eG m6 with
   | inl h=>exact Or.inl h
   | inr h=>exact Or.inr (by omega)
  ·intro E' h8 b8 c8;refine⟨by omega,b8 _ (by omega),x7.aA b8 (Γ _),⟨by omega,by rw[b8 _ (by omega),b7 _ (by omega),b6 _ (by omega),e5.2 _ g2];exact g3⟩,?_,(((g6.ext e5).aA b6 (by omega)).aA b7 (by omega)).aA b8 (by omega)⟩;rw[jS,←tI fb,Wr fb]at c8;exact c8
 ·rintro h' n' nE ⟨g1,⟨g2,g3⟩,g5,g6⟩;rw[Cf]at g5;have hl:(dz ts ts.length).length=ts.length:=Aw (Γ _);have hI:=g5.Jz hl;have hg:=hI.get (i:=ts.length - 1) (by omega) 1;have hx:(dz ts ts.length)[ts.length - 1]'(by omega)=EP ts:=by rw[←ID,MG (by omega)];rfl
  rw[hx]at hg;refine θ<|χ U (g6.ld U _)<|χ U (g6.ld U _)<|aG U hI<|jg U U ⟨by omega,by omega⟩<|?_;rw[show((dz ts ts.length).length:Int) - 1=((ts.length - 1:Nat):Int) by omega];refine bh U U hI (by omega)<|χ U hg<|γ U<|ε<|aj ⟨_,rfl,hQ _ _ g1⟩
 ·rintro ex h' n' h2 pz hf;exact hf.elim
end
section
variable {C:Nat->Option bP}{h:Hf}{n:K}{Q:V->Hf->K->Prop}
theorem pe(hC:Cd C){x:Bool}{e:Int}(hQ:Q (.i .i64 (if x then e else 0)) h n):τ C (.f 49 [] []) [.b x,.i .i64 e] h n Q:=by
 refine τ.go hC.f49 U ?_;refine θ<|γ U<|ε ?_;refine ν<|θ<|γ U<|ε ?_;refine di U (λhx=>?_) (λhx=>?_)
 ·refine θ<|γ U<|γ U<|ε (aj ⟨_,rfl,by subst hx;exact hQ⟩)
 ·refine ao ?_;refine θ<|γ U<|ε (aj ⟨_,rfl,by subst hx;exact hQ⟩)
theorem Wt(hC:Cd C){c:UInt8}(hQ:Q (.b (hX c)) h n):τ C (.f 302 [] []) [.i .u8 (c.toNat:Nat)] h n Q:=by
 refine τ.go hC.f302 U ?_;refine θ<|γ U<|ε ?_;by_cases h1:48<=c.toNat
 ·have e:hX c=decide ((c.toNat:Int)<=57):=by simp[hX,h1]<;>omega
  rw[e]at hQ;refine θ<|γ U<|fU U U<|γ U<|κ U (by simp<;>omega)<|γ U<|κ U (by simp<;>omega)<|oW U U<|cg U (by simp<;>omega) U<|γ U<|ε (aj ⟨_,rfl,hQ⟩)
 ·have e:hX c=false:=by simp[hX,h1]
  rw[e]at hQ;refine θ<|γ U<|fU U U<|γ U<|σ U (by simp<;>omega)<|σ U (by simp<;>omega)<|bE U (by simp<;>omega) U<|γ U<|ε (aj ⟨_,rfl,hQ⟩)
theorem agH(hC:Cd C){b:S}(hlen:b.length<1000000):∀(m i:Nat) (YY:V),b.length - i=m->i<=b.length->Q (.b ((b.drop i).all hX)) h n->WC C Tt [(k3,st b),(k4,.i .i64 (i:Nat))] h n (blk 0 (sq C Tu (fq [.t k2] Q))):=by
 intro m
 induction m with
 | zero=>
  intro i YY hm hi hQ;refine aQ ?_;refine ν<|θ<|γ U<|γ U<|cW U<|aP U U<|ε ?_;refine aE U (by simp;omega)<|bW ?_;have:i=b.length:=by omega
  subst this;refine θ<|γ U<|ε (aj ⟨_,rfl,by simpa using hQ⟩)
 | succ m ih=>
  intro i YY hm hi hQ;have ψ:i<b.length:=by omega
  rw[gi ψ,List.all_cons]at hQ;refine aQ ?_;refine ν<|θ<|γ U<|γ U<|cW U<|aP U U<|ε ?_;refine aD U (by simp;omega)<|ao ?_;cases hd:hX b[i] with
  | false=>
   rw[hd]at hQ;refine ν<|aK<|θ<|γ U<|γ U<|mq U U ψ<|al U U<|Wt hC<|dR U<|ε ?_;refine aD U (by simp[hd]) ?_;refine θ<|γ U<|ε (aj ⟨_,rfl,hQ⟩)
  | true=>
   rw[hd]at hQ;refine ν<|aK<|θ<|γ U<|γ U<|mq U U ψ<|al U U<|Wt hC<|dR U<|ε ?_;refine aE U (by simp[hd])<|ao ?_;refine aR<|γ U<|cK U U ⟨by omega,by omega⟩<|γ U<|ε ?_;exact ae (ih (i+1) YY (by omega) (by omega) (by simpa using hQ)) ⟨rfl,rfl,trivial⟩
theorem agI(hC:Cd C){s:S}(hlen:s.length<1000000)(hQ:Q (.b (js s)) h n):τ C (.f 256 [] []) [st s] h n Q:=by
 have rest:WC C Tv [(k0,st s),(k3,st (body s))] h n (fq [.t k2] Q):=by
  have hl:(body s).length<1000000:=by have:=(EJ s).1;omega
  have fin:js s=(body s).all hX->WC C LA [(k3,st (body s))] h n (fq [.t k2] Q):=by intro e;refine ν<|θ<|γ U<|ε ?_;exact aK<|ae (agH hC hl _ 0 .q U (by omega) (by rw[e]at hQ;exact hQ)) ⟨rfl,rfl,trivial⟩
  have no:js s=false->WC C Ts [] h n (sq C LA (fq [.t k2] Q)):=by intro e;refine θ<|γ U<|ε (aj ⟨_,rfl,by rw[e]at hQ;exact hQ⟩)
  by_cases h1:(body s).length=0
  ·refine ν<|θ<|γ U<|cW U<|bQ U U<|γ U<|σ U (by simp[h1])<|σ U (by simp[h1])<|cg U (by simp[h1]) U<|γ U<|σ U U<|σ U U<|σ U U<|σ U U<|eX U<|eX U<|eX U<|σ U U<|cg U U U<|ε ?_;exact aD U U (ae (no (by simp[js,h1])) trivial)
  ·by_cases h2:s=[45,48]
   ·refine ν<|θ<|γ U<|cW U<|bQ U U<|γ U<|κ U (by simp[h1])<|γ U<|κ U (by simp[h1])<|gg (b:=[45,48]) U U<|bE U (by simp[h1]) U<|γ U<|σ U (by simp[h2])<|σ U (by simp[h2])<|σ U (by simp[h2])<|σ U (by simp[h2])<|eX U<|eX U<|eX U<|σ U (by simp[h2])<|cg U (by simp[h2]) U<|ε ?_;exact aD U U (ae (no (by simp[js,h2])) trivial)
   ·by_cases h3:1<(body s).length
    ·have h0:0<(body s).length:=by omega
     have hh:∀(b:S) (h:0<b.length),(b[0].toNat:Int)=(qc b:Nat):=by
      intro b h;cases b with
      | nil=>exact absurd h (by simp)
      | cons c l=>simp[qc]
     have hh:=hh (body s) h0;by_cases h4:qc (body s)=48
     ·refine ν<|θ<|γ U<|cW U<|bQ U U<|γ U<|κ U (by simp[h1])<|γ U<|κ U (by simp[h1])<|gg (b:=[45,48]) U U<|bE U (by simp[h1]) U<|γ U<|κ U (by simp[h2])<|γ U<|κ U (by simp[h2])<|cW U<|κ U (by simp[h2])<|cQ U U<|κ U (by simp[h2])<|γ U<|κ U (by simp<;>omega)<|γ U<|κ U (by simp<;>omega)<|mq U U h0<|κ U (by simp<;>omega)<|bQ U U<|κ U (by simp[h2])<|cg U (by simp<;>omega) U<|bE U (by simp[h2]) U<|ε ?_;exact aD U (by simp[hh,h4]) (ae (no (by simp[js,h3,h4])) trivial)
     ·refine ν<|θ<|γ U<|cW U<|bQ U U<|γ U<|κ U (by simp[h1])<|γ U<|κ U (by simp[h1])<|gg (b:=[45,48]) U U<|bE U (by simp[h1]) U<|γ U<|κ U (by simp[h2])<|γ U<|κ U (by simp[h2])<|cW U<|κ U (by simp[h2])<|cQ U U<|κ U (by simp[h2])<|γ U<|κ U (by simp<;>omega)<|γ U<|κ U (by simp<;>omega)<|mq U U h0<|κ U (by simp<;>omega)<|bQ U U<|κ U (by simp[h2])<|cg U (by simp<;>omega) U<|bE U (by simp[h2]) U<|ε ?_;exact aE U (by simp[hh]<;>omega) (ao (ae (fin (by simp[js,h1,h2,h4])) ⟨rfl,trivial⟩))
    ·refine ν<|θ<|γ U<|cW U<|bQ U U<|γ U<|κ U (by simp[h1])<|γ U<|κ U (by simp[h1])<|gg (b:=[45,48]) U U<|bE U (by simp[h1]) U<|γ U<|κ U (by simp[h2])<|γ U<|κ U (by simp[h2])<|cW U<|κ U (by simp[h2])<|cQ U U<|κ U (by simp[h2])<|γ U<|σ U (by simp<;>omega)<|σ U (by simp<;>omega)<|σ U (by simp<;>omega)<|κ U (by simp[h2])<|bE U (by simp<;>omega) U<|bE U (by simp[h2]) U<|ε ?_;exact aE U U (ao (ae (fin (by simp[js,h1,h2,h3])) ⟨rfl,trivial⟩))
 refine τ.go hC.f256 U ?_;refine θ<|γ U<|ε ?_;refine θ<|γ U<|γ U<|ε ?_;cases s with
 | nil=>
  refine ν<|θ<|γ U<|cW U<|cQ U U<|γ U<|σ U (rfl)<|σ U (rfl)<|σ U (rfl)<|bE U (rfl) U<|ε ?_;exact aE U U (ao (ae rest ⟨rfl,rfl,trivial⟩))
 | cons c l=>
  refine ν<|θ<|γ U<|cW U<|cQ U U<|γ U<|κ U (by simp<;>omega)<|γ U<|κ U (by simp<;>omega)<|mq U U (by simp)<|κ U (by simp<;>omega)<|bQ U U<|cg U (by simp<;>omega) U<|ε ?_;refine di U (λhx=>?_) (λhx=>ao ?_)
  ·simp only[sH,bT]at hx;have hb:body (c::l)=l:=by simp only[body];rw[az (by omega)]
   refine aR<|γ U<|Ae U U U (by simp) (by omega)<|γ U<|ε ?_;rw[hb]at rest;exact ae rest ⟨rfl,by show some (st (List.take _ (List.drop 1 (c::l))))=_;simp,trivial⟩
  ·simp only[sH,dn]at hx;have hb:body (c::l)=c::l:=by simp only[body];rw[ai (by omega)]
   rw[hb]at rest;exact ae rest ⟨rfl,rfl,trivial⟩
theorem Cm(hC:Cd C){s:S}(hlen:s.length<1000000)(hQ:Q (.i .i64 (gK s)) h n):τ C (.f 193 [] []) [st s] h n Q:=by
 refine τ.go hC.f193 U ?_;refine θ<|γ U<|ε ?_;refine ν<|θ<|γ U<|al U U<|agI hC hlen<|dR U<|ε ?_;refine di U (λhx=>?_) (λhx=>ao ?_)
 ·have hf:js s=false:=by simpa using hx
  refine θ<|γ U<|ε (aj ⟨_,rfl,by simpa[gK,hf]using hQ⟩)
 ·have hf:js s=true:=by simpa using hx
  have bC:=My hf;cases s with
  | nil=>exact absurd rfl bC
  | cons c l=>
   refine θ<|γ U<|cW U<|γ U<|ε ?_;refine ν<|θ<|γ U<|mq U U (by simp)<|bQ U U<|ε ?_;have e:∀m:Int,m=(body (c::l)).length->Q (.i .i64 (if decide (120<m)=true then 4 else 0)) h n:=by
    intro m hm;simp only[gK,hf,if_true]at hQ;by_cases h:120<(body (c::l)).length
    ·rw[az h]at hQ;rw[az (by simp<;>omega)];exact hQ
    ·rw[ai h]at hQ;rw[ai (by simp<;>omega)];exact hQ
   refine di U (λhx=>?_) (λhx=>ao ?_)
   ·simp only[sH,bT]at hx;refine aR<|γ U<|jg U U (⟨by simp<;>omega,by simp at hlen ⊢ <;>omega⟩)<|γ U<|ε ?_;refine θ<|γ U<|cQ U U<|al U U<|pe hC<|γ U<|ε (aj ⟨_,rfl,e _ (by simp only[body];rw[az (by omega)];simp)⟩)
   ·simp only[sH,dn]at hx;refine θ<|γ U<|cQ U U<|al U U<|pe hC<|γ U<|ε (aj ⟨_,rfl,e _ (by simp only[body];rw[ai (by omega)])⟩)
end
section
variable {C:Nat->Option bP}{h:Hf}{n:K}{Q:V->Hf->K->Prop}
def Ax(s:S):V:=match lL s with | some (p,q)=>.u [st p,st q,.b true] | none=>.u [.s 0 0,.s 0 0,.b false]
theorem ML{s:S}(h:lL s=none):Ax s=.u [.s 0 0,.s 0 0,.b false]:=by unfold Ax;rw[h]
theorem agJ{s:S}(hlen:s.length<1000000):∀(m i:Nat) (at_:Int),s.length - i=m->i<=s.length->((at_ = -1/\iK (s.take i)=false)\/(∃a:Nat,∃ha:a<s.length,at_=(a:Int)/\a<i/\iK (s.take a)=false/\s[a].toNat=47/\iK ((s.take i).drop (a+1))=false))->Q (Ax s) h n->WC C Tw [(k0,st s),(k5,.i .i64 at_),(k6,.i .i64 (i:Nat))] h n (blk 0 (sq C Tz (fq [.t k2,.t k3,.t k4] Q))):=by
 intro m
 induction m with
 | zero=>
  intro i at_ hm hi hI hQ;have:i=s.length:=by omega
  subst this;refine aQ ?_;refine ν<|θ<|γ U<|γ U<|cW U<|aP U U<|ε ?_;refine aE U (by simp<;>omega)<|bW ?_;refine ν<|θ<|γ U<|aP U U<|ε ?_;rcases hI with ⟨rfl,h1⟩ | ⟨a,ha,rfl,h1,h2,h3,h4⟩
  ·refine aD U (by simp) ?_;refine θ<|γ U<|γ U<|γ U<|ε ?_;refine aj ⟨_,rfl,?_⟩;rw[fO]at h1;rw[ML (by simp[lL,Mz h1])]at hQ;exact hQ
  ·refine aE U (by simp<;>omega)<|ao ?_;have e:lL s=some (s.take a,s.drop (a+1)):=by
    rw[fO]at h4;simp[lL,MA ha h2 h3,h4]
   have h5:a<=s.length:=by omega
   refine eS<|aL U<|aL U<|Ek U U U (by omega) h5<|aL U<|aL U<|yB U U ⟨by omega,by omega⟩<|Ek U U U (by show a+1<=s.length;omega) (by simp)<|aL U<|aL U<|aL U<|dQ (by simp[AG,mn,pv,Nat.testBit]) ?_;refine aj ⟨_,rfl,?_⟩;unfold Ax at hQ;rw[e]at hQ;have e2:List.take (s.length - (a+1)) (List.drop (a+1) s)=s.drop (a+1):=pF (by simp);show Q (.u [st (List.take (a - 0) (List.drop 0 s)),st (List.take (s.length - (a+1)) (List.drop (a+1) s)),.b true]) h n;rw[e2];exact hQ
 | succ m ih=>
  intro i at_ hm hi hI hQ;have ψ:i<s.length:=by omega
  refine aQ ?_;refine ν<|θ<|γ U<|γ U<|cW U<|aP U U<|ε ?_;refine aD U (by simp<;>omega)<|ao ?_;refine ν<|aK<|θ<|γ U<|γ U<|mq U U ψ<|bQ U U<|ε ?_;refine di U (λhx=>?_) (λhx=>ao ?_)
  ·simp only[bT]at hx;have hx:s[i].toNat=47:=by omega
   refine ν<|θ<|γ U<|fU U U<|ε ?_;rcases hI with ⟨rfl,h1⟩ | ⟨a,ha,rfl,h1,h2,h3,h4⟩
   ·refine aE U (by simp)<|ao ?_;refine aR<|γ U<|γ U<|ε ?_;refine aR<|γ U<|cK U U ⟨by omega,by omega⟩<|γ U<|ε ?_;refine ae (ih (i+1) (i:Int) (by omega) (by omega) (Or.inr ⟨i,ψ,rfl,by omega,h1,hx,?_⟩) hQ) ⟨rfl,rfl,rfl,trivial⟩;rw[ql (by simp<;>omega)];rfl
   ·refine aD U (by simp<;>omega) ?_;refine θ<|γ U<|γ U<|γ U<|ε ?_;refine aj ⟨_,rfl,?_⟩;have e:lL s=none:=by
     have:iK (s.drop (a+1))=true:=by
      have:s.drop (a+1)=(s.drop (a+1)).take (i - (a+1))++s[i]::s.drop (i+1):=by
       have e1:(s.drop (a+1)).drop (i - (a+1))=s[i]::s.drop (i+1):=by rw[List.drop_drop,←gi ψ];congr 1;omega
       rw[←e1,Bk]
      rw[this,Wf];simp only[iK,List.any_cons,hx,decide_true,Bool.true_or,Bool.or_true]
     simp[lL,MA ha h2 h3,this]
    rw[ML e]at hQ;exact hQ
  ·simp only[dn]at hx;have hx:¬ s[i].toNat=47:=by omega
   refine aR<|γ U<|cK U U ⟨by omega,by omega⟩<|γ U<|ε ?_;refine ae (ih (i+1) at_ ?_ ?_ ?_ hQ) ⟨rfl,rfl,rfl,trivial⟩
   ·clear hI hQ ih;omega
   ·clear hI hQ ih;omega
   rcases hI with ⟨rfl,h1⟩ | ⟨a,ha,rfl,h1,h2,h3,h4⟩
   ·refine Or.inl ⟨rfl,?_⟩;rw[af9 ψ,h1];simp[hx]
   ·refine Or.inr ⟨a,ha,rfl,by omega,h2,h3,?_⟩;have:(s.take (i+1)).drop (a+1)=(s.take i).drop (a+1)++[s[i]]:=by
     rw[iy ψ,List.drop_append_of_le_length (by simp<;>omega)]
    rw[this,Wf,h4];simp[iK,hx]
theorem Wu(hC:Cd C){s:S}(hlen:s.length<1000000)(hQ:Q (Ax s) h n):τ C (.f 257 [] []) [st s] h n Q:=by refine τ.go hC.f257 U ?_;refine θ<|γ U<|γ U<|γ U<|ε ?_;refine θ<|γ U<|ε ?_;refine ν<|θ<|γ U<|ε ?_;exact aK<|ae (agJ hlen _ 0 (-1) U (by omega) (Or.inl ⟨rfl,rfl⟩) hQ) ⟨rfl,rfl,rfl,trivial⟩
theorem Wv(hC:Cd C){v:V}{l:List Nat}{i:Nat}(hv:bj h n .i64 v l)(hlen:l.length<1000000)(hQ:Q (.i .i64 (l.getD i 0:Nat)) h n):τ C (.f 352 [] []) [v,.i .i64 (i:Nat)] h n Q:=by
 refine τ.go hC.f352 U ?_;refine θ<|γ U<|ε ?_;refine ν<|θ<|γ U<|γ U<|aG U hv<|aP U U<|ε ?_;by_cases hi:i<l.length
 ·refine aD U (by simp<;>omega) ?_;have e:l.getD i 0=l[i]:=by rw[fF,gP hi];rfl
  rw[e]at hQ;refine θ<|γ U<|γ U<|bh U U hv hi<|χ U (hv.get hi _)<|γ U<|ε (aj ⟨_,rfl,hQ⟩)
 ·refine aE U (by simp<;>omega)<|ao ?_;have e:l.getD i 0=0:=by rw[fF,xr (by omega)];rfl
  rw[e]at hQ;refine θ<|γ U<|ε (aj ⟨_,rfl,hQ⟩)
end
section
variable {C:Nat->Option bP}{h:Hf}{n:K}{Q:V->Hf->K->Prop}
structure Gr(h0:Hf)(n0:K)(h:Hf)(n:K)(e z:Nat)(v:V)(len:Nat)(cs:List V):Prop where
 ext:Ext h0 n0 h n
 own:gp h e z v len cs
 at_:gp.At v n0 n
section
variable {h0 h':Hf}{n0 n':K}{e z len m:Nat}{v v':V}{cs new:List V}
theorem Gr.ns(a:Ext h0 n0 h n):Gr h0 n0 h n e z .ns 0 []:=⟨a,gp.ns h e z,Or.inl U⟩
theorem Gr.lt(a:Gr h0 n0 h n e z v len cs):v=.ns\/v.blk.num<n.num:=a.at_.imp id And.right
theorem Gr.sl(a:Gr h0 n0 h n e z v len cs):ρ h n z v len cs:=a.own.sl a.lt
theorem Gr.ge(a:Gr h0 n0 h n e z v len cs):v=.ns\/n0.num<=v.blk.num:=a.at_.imp id And.left
theorem Gr.on(a:Gr h0 n0 h n e z v len cs)(x:Ext h n h' n'):Gr h0 n0 h' n' e z v len cs:=
 ⟨a.ext.trans x,a.own.ext (a.lt.imp id λh=>x.2 _ h),a.at_.imp id λh=>⟨h.1,fN h.2 x.1⟩⟩
theorem Gr.aA{b:K}(a:Gr h0 n0 h n e z v len cs)(x:df b h h')(hb:n0.num<=b.num)(hv:v=.ns\/v.blk.num≠b.num):Gr h0 n0 h' n e z v len cs:=
 ⟨a.ext.aA x hb,a.own.ext (hv.imp id λh=>x _ h),a.at_⟩
theorem Gr.app(a:Gr h0 n0 h n e z v len cs)(ho:gp h' e z v' (len+m) (cs++new))(hb:v'.blk=n)(hn:n'.num=n.num+1)(hs:∀b:K,b.num<n.num->(v=.ns\/b.num≠v.blk.num)->h' b=h b):Gr h0 n0 h' n' e z v' (len+m) (cs++new):=
 ⟨⟨by have:=a.ext.1;omega,λk hk=>by have h1:=a.ext.1;rw[hs k (by omega) (a.ge.imp id λh=>by omega),a.ext.2 k hk]⟩,ho,Or.inr ⟨by rw[hb];exact a.ext.1,by rw[hb];omega⟩⟩
end
theorem Cn{E:Env}{k:K}{v:V}(h1:lk E k=some v)(hc:v.cells=[v])(ho:v.one=true){a b:V}:iQ E [a,b] [(1,1,.t k)]=some [a,v]:=by simp only[iQ,ge,h1,hc,fG,pG,bN,ho,eW,over];rfl
theorem Ww{E:Env}{k k':K}{v w:V}(h1:lk E k=some v)(hc:v.cells=[v])(ho:v.one=true)(nu:lk E k'=some w)(tc:w.cells=[w])(rj:w.one=true){a b:V}:iQ E [a,b] [(0,1,.t k),(1,1,.t k')]=some [v,w]:=by simp only[iQ,ge,h1,nu,hc,tc,fG,pG,bN,ho,rj,eW,over];rfl
theorem kT{E:Env}{k:K}{v:V}(h1:lk E k=some v)(hc:v.cells=[v])(ho:v.one=true){a:V}:iQ E [a] [(0,1,.t k)]=some [v]:=by simp only[iQ,ge,h1,hc,fG,pG,bN,ho,eW,over];rfl
theorem bj.one{k:IntKind}{v:V}{l:List Nat}(a:bj h n k v l):v.one=true:=ρ.one a
theorem bj.cells{k:IntKind}{v:V}{l:List Nat}(a:bj h n k v l):v.cells=[v]:=ρ.cells a
theorem Cl.qL{b:K}{k:IntKind}{l:List Nat}{e len:Nat}(a:Cl h n b (nC k l) e)(hl:l.length=len):bj h n k (.sl b 0 len len) l:=by subst hl;exact ρ.whole a.1 a.2 (by simp[Ll])
theorem bj.xT{k:IntKind}{v:V}{l:List Nat}(a:bj h n k v l):v=.ns\/v.blk.num<n.num:=ρ.eG a
theorem Wx{l:List Nat}{m:Nat}(hm:m<l.length)(h0:l[m]=0):dE (l.take (m+1))=dE (l.take m):=by rw[iy hm,h0,af6]
theorem Wy{l:List Nat}{m:Nat}(hm:m<l.length)(h0:l[m]≠0):dE (l.take (m+1))=l.take (m+1):=by rw[iy hm,af7 _ h0]
theorem agK{sl:V}{neg:Bool}{l:List Nat}{b1 b2:K}(hlen:l.length<1000000)(hv:bj h n .i64 sl l)(c1:Cl h n b1 [.b neg,sl] 310){Q1:Ex->Env->Hf->K->Prop}:
 ∀(m:Nat),m<=l.length->dE l=dE (l.take m)->(∀m' E',m'<=l.length->dE l=l.take m'->da [(k1,.p b1 0),(k2,.p b2 0),(k3,.i .i64 (m':Nat))] E'->Q1 .normal E' h n)->WC C TF [(k1,.p b1 0),(k2,.p b2 0),(k3,.i .i64 (m:Nat))] h n (blk 0 Q1):=by
 intro m
 induction m with
 | zero=>
  intro hm hs hQ;refine aQ ?_;refine ν<|θ<|γ U<|cQ U U<|γ U<|σ U (by simp)<|σ U (by simp)<|σ U (by simp)<|σ U (by simp)<|σ U (by simp)<|σ U (by simp)<|σ U (by simp)<|bE U (by simp) U<|ε ?_;refine aE U U<|bW (hQ 0 _ hm (by simpa[dE]using hs) ⟨rfl,rfl,rfl,trivial⟩)
 | succ m ih=>
  intro hm hs hQ;have ψ:m<l.length:=by omega
  have e:((m+1:Nat):Int) - 1=(m:Nat):=by omega
  have hg:=hv.get ψ 1;refine aQ ?_;refine ν<|θ<|γ U<|cQ U U<|γ U<|κ U (by simp<;>omega)<|Ω U<|κ U (by simp<;>omega)<|χ U (c1.ld U _)<|κ U (by simp<;>omega)<|γ U<|κ U (by simp<;>omega)<|kQ U U e ⟨by omega,by omega⟩<|κ U (by simp<;>omega)<|bh U U hv ψ<|κ U (by simp<;>omega)<|χ U hg<|κ U (by simp<;>omega)<|bQ U U<|cg U (by simp<;>omega) U<|ε ?_;refine di U (λhx=>?_) (λhx=>?_)
  ·simp only[bT]at hx;refine ao ?_;refine aK<|aR<|γ U<|kQ U U e ⟨by omega,by omega⟩<|γ U<|ε ?_;exact ae (ih (by omega) (by rw[hs,Wx ψ (by omega)]) hQ) ⟨rfl,rfl,rfl,trivial⟩
  ·simp only[dn]at hx;exact bW (hQ (m+1) _ hm (by rw[hs,Wy ψ (by omega)]) ⟨rfl,rfl,rfl,trivial⟩)
theorem Wz{a b:V}{o:Nat}(h:o=0+1){v:V}(hc:v.cells=[v])(ho:v.one=true):mG [a,b] 0 o 1 v=some [a,v]:=by subst h;simp only[mG,hc,bN,ho,fG,pG,eW,over];rfl
theorem IE{a b:V}{v:V}(hc:v.cells=[v])(ho:v.one=true):mG [a,b] 0 (0+0) 1 v=some [v,b]:=by simp only[mG,hc,bN,ho,fG,pG,eW,over];rfl
theorem rV{a b c d:V}(ho:bN [c,d]=true):mG [a,b] 0 0 2 (.a [c,d])=some [c,d]:=ff rfl rfl ho
theorem yO(hC:Cd C){sl:V}{neg:Bool}{l:List Nat}(hlen:l.length<1000000)(hv:bj h n .i64 sl l)
 (hQ:∀Co v' h' n',Ext h n h' n'->bj h' n .i64 v' (dE l)->v'.blk=sl.blk/\(sl=.ns->v'=.ns)/\(neg=false->Co=false)->Q (.a [.b Co,v']) h' n'):τ C (.f 304 [] []) [.a [.b neg,sl]] h n Q:=by
 refine τ.go hC.f304 U ?_;have h1:=hv.one;refine θ<|eL U U (jL rfl h1) <| λh1 n1 dZ a1 e1=>ea <| λh2 n2 fB a2 e2=>ε ?_;have c1:Cl h2 n2 n [.b neg,sl] 310:=Cl.ext ⟨by omega,a1⟩ e2;have c2:Cl h2 n2 n1 [.b false,.ns] 310:=⟨by omega,a2⟩;have mI:=e1.trans e2;have iG:bj h2 n .i64 sl l:=hv.at_ mI;refine θ<|Ω U<|χ U (c1.ld U _)<|aG U iG<|γ U<|ε ?_;refine ν<|aK<|ae (agK (b2:=n1) hlen (iG.up mI.1) c1 _ (Γ _) (by rw[fO]) ?_) ⟨rfl,rfl,rfl,trivial⟩;intro m E' hm hs hE;refine dB hE ?_;have fin:∀Co v' h',df n h2 h'->Cl h' n2 n [.b Co,v'] 310->bj h' n .i64 v' (dE l)->v'.blk=sl.blk/\(sl=.ns->v'=.ns)/\(neg=false->Co=false)->WC C TH [(k1,.p n 0),(k2,.p n1 0)] h' n2 (fq [.cell k2 true 2] Q):=by intro Co v' h' b' c' i' ue;have h1:=i'.one;have d2:=c2.aA b' (by omega);have e3:Ext h n h' n2:=mI.aA b' (by omega);refine θ<|χ U (cz c'.2 rfl)<|ct U U d2.2 (rV (jL rfl h1)) <| λh4 a4 b4=>ε ?_;refine aj ⟨_,kP rfl (cz a4 rfl),?_⟩;exact hQ _ _ _ _ (e3.aA b4 (by omega)) (i'.El b4 (by omega)) ue
 refine θ<|Ω U<|χ U (c1.ld U _)<|γ U<|HX U iG U U (by omega) hm <| λv3 i3 l3=>Ω U<|ct U U c1.2 (Wz rfl (ρ.cells i3) (ρ.one i3)) <| λh4 a4 b4=>ε ?_;have i4:bj h4 n .i64 v3 (dE l):=by have:=(bj.sub i3 hm).El b4 (Γ _);rw[jS,rA,←hs]at this;exact this
 have c4:Cl h4 n2 n [.b neg,v3] 310:=⟨c1.1,a4⟩;refine ν<|θ<|γ U<|bQ U U<|ε ?_;refine di U (λhx=>?_) (λhx=>ao ?_)
 ·refine aR<|Ω U<|ct U U a4 (IE rfl rfl) <| λh5 a5 b5=>ε ?_;exact ae (fin false v3 h5 (λk hk=>by rw[b5 k hk,b4 k hk]) ⟨c1.1,a5⟩ (i4.El b5 (Γ _)) ⟨l3.2.1,l3.2.2,λ_=>rfl⟩) ⟨rfl,rfl,trivial⟩
 ·exact ae (fin neg v3 h4 b4 c4 i4 ⟨l3.2.1,l3.2.2,id⟩) ⟨rfl,rfl,trivial⟩
end
section
variable {C:Nat->Option bP}{h:Hf}{n:K}{Q:V->Hf->K->Prop}
theorem jt{l:List Nat}{i:Nat}(hi:i<l.length):l.getD i 0=l[i]:=by rw[fF,gP hi];rfl
theorem Ay{m:Made}{p:PR}{b:PB}(h1:p.val (ki b.h p.ah m))(h2:p.val (ki b.h' p.ah m)):pv m p b:=by
 unfold pv;cases (Nat.testBit p.ah b.i||Nat.testBit b.ah p.i)
 ·exact⟨h1,h2⟩
 ·trivial
theorem dJ{m:Made}{i ah i' agL sz:Nat}{agg:Bool}{p v:V}{H H':Hf}(h1:cD (ki H ah m) agg sz p=some v)(h2:cD (ki H' ah m) agg sz p=some v):pv m ⟨i,ah,λg=>cD g agg sz p=some v⟩ ⟨i',agL,H,H'⟩:=Ay h1 h2
theorem ak{m:Made}{p:PR}{b:PB}(h:(Nat.testBit p.ah b.i||Nat.testBit b.ah p.i)=true):pv m p b:=by unfold pv;rw[h];trivial
theorem agM(hC:Cd C){va vb:V}{a b:List Nat}{h0:Hf}{n0:K}(fX:a.length<1000)(gG:b.length<1000)(ha:Sm 10000 a)(hb:Sm 10000 b)(ia:bj h0 n0 .i64 va a)(ib:bj h0 n0 .i64 vb b){Q1:Ex->Env->Hf->K->Prop}:
 ∀(m i:Nat) (out:List Nat) (bo:Nat) (vo:V) (h:Hf) (n:K),a.length - i=m->i<=a.length->out.length=i->Sm 10000 out->bo<=1->val 10000 out+val 10000 (b.take i)=val 10000 (a.take i)+bo*10000 ^ i->Gr h0 n0 h n 3 1 vo out.length (nC .i64 out)->(∀(out:List Nat) (bo:Nat) (vo:V) (h:Hf) (n:K) E',out.length=a.length->Sm 10000 out->bo<=1->val 10000 out+val 10000 (b.take a.length)=val 10000 a+bo*10000 ^ a.length->Gr h0 n0 h n 3 1 vo out.length (nC .i64 out)->da [(k5,vo)] E'->Q1 .normal E' h n)->WC C TV [(k0,va),(k1,vb),(k5,vo),(k6,.i .i64 (bo:Nat)),(k7,.i .i64 (i:Nat))] h n (blk 0 Q1):=by
 intro m
 induction m with
 | zero=>
  intro i out bo vo h n hm hi ho hs CY hv hg hQ;have e:i=a.length:=by omega
  refine aQ ?_;refine ν<|θ<|γ U<|γ U<|aG U ia<|aP U U<|ε ?_;refine aE U (by simp<;>omega)<|bW ?_;subst e;rw[fO]at hv;exact hQ out bo vo h n _ (by omega) hs CY hv hg ⟨rfl,trivial⟩
 | succ m ih=>
  intro i out bo vo h n hm hi ho hs CY hv hg hQ;have ψ:i<a.length:=by omega
  have pf:=ia.at_ hg.ext;have pA:=ib.at_ hg.ext;have q1:a[i]<10000:=ha.get ψ;have q2:=hb.getD (by decide) i;have zj:=pf.get ψ 1;have t1:=vi (B:=10000) a i;have t2:=vi (B:=10000) b i;rw[jt ψ]at t1;refine aQ ?_;refine ν<|θ<|γ U<|γ U<|aG U ia<|aP U U<|ε ?_;refine aD U (by simp<;>omega)<|ao ?_;generalize qJ:b.getD i 0=bd at*;generalize MM:a[i]=ad at*;have tL:∀{Q:V->Hf->K->Prop},Q (.i .i64 (bd:Nat)) h n->τ C (.f 352 [] []) [vb,.i .i64 (i:Nat)] h n Q:=λhQ=>Wv hC (pA.up hg.ext.1) (by omega) (by rw[qJ];exact hQ);refine ν<|aK<|eS<|aL U<|aL U<|et U U pf ψ<|bc U zj U (by simp[dH,iC,dD,jW])<|aL U<|aL U<|cJ U U<|tL<|BU U U ⟨by omega,by omega⟩<|aL U<|BU U U ⟨by omega,by omega⟩<|aL U<|dQ (⟨⟨Ay zj zj,trivial⟩,trivial⟩) ?_;refine θ<|γ U<|ε ?_;refine ν<|θ<|γ U<|aP U U<|ε ?_;have fin:∀(d ER:Nat),d<10000->ER<=1->((d:Int)=(ad:Int) - (bd:Int) - (bo:Int)+ER*10000)->WC C TS [(k5,vo),(k8,.i .i64 (d:Nat)),(k0,va),(k1,vb),(k6,.i .i64 (ER:Nat)),(k7,.i .i64 (i:Nat))] h n (blk 1 (sq C TT (sq C (.loop TU) (blk 0 Q1)))):=by
   intro d ER hd agN he;refine aR<|γ U<|γ U<|fx U <| λh1 n1 dZ a1 e1=>jK U ((hg.on e1).own) U (ρ.whole (len:=1) (by omega) a1 rfl) (by omega) (by omega) (by omega) (by omega) U ((hg.on e1).lt) <| λv2 h2 n2 um fM fB mV=>γ U<|ε ?_;have g2:=(hg.on e1).app um fM fB mV;have e2:nC .i64 out++[V.i .i64 (d:Nat)]=nC .i64 (out++[d]):=by rw[Ln];rfl
   rw[e2]at g2;refine aR<|γ U<|cK U U ⟨by omega,by omega⟩<|γ U<|ε ?_;refine ae (ih (i+1) (out++[d]) ER v2 h2 n2 (by omega) (by omega) (by simp[ho]) ?_ agN ?_ (by rw[gX];exact g2) hQ) ⟨rfl,rfl,rfl,rfl,rfl,trivial⟩
   ·intro x hx;rcases kc.1 hx with hx | hx
    ·exact hs x hx
    ·simp at hx;rw[hx];exact hd
   ·rw[yM,t1,t2,ho];simp only[val,kM,j8];have CL:d+bd+bo=ad+ER*10000:=by omega
    have e3:10000 ^ i*d+10000 ^ i*bd+10000 ^ i*bo=10000 ^ i*ad+ER*10000 ^ (i+1):=by rw[←gB,←gB,CL,gB,gW];congr 1;rw[dY ER 10000,←iX,dY]
    have e4:bo*10000 ^ i=10000 ^ i*bo:=dY _ _;omega
  refine di U (λhx=>?_) (λhx=>?_)
  ·simp only[bT]at hx;obtain⟨d,hd⟩:∃d:Nat,(d:Int)=(ad:Int) - (bd:Int) - (bo:Int)+10000:=⟨((ad:Int) - (bd:Int) - (bo:Int)+10000).toNat,by omega⟩;refine θ<|γ U<|kp U U hd.symm ⟨by omega,by omega⟩<|γ U<|ε ?_;refine aR<|γ U<|ε ?_;exact ae (fin d 1 (by omega) (by omega) (by omega)) ⟨rfl,rfl,rfl,rfl,rfl,rfl,trivial⟩
  ·simp only[dn]at hx;obtain⟨d,hd⟩:∃d:Nat,(d:Int)=(ad:Int) - (bd:Int) - (bo:Int):=⟨((ad:Int) - (bd:Int) - (bo:Int)).toNat,by omega⟩;refine ao ?_;rw[←hd];exact ae (fin d 0 (by omega) (by omega) (by omega)) ⟨rfl,rfl,rfl,rfl,rfl,rfl,trivial⟩
theorem agO(hC:Cd C){va vb:V}{a b:List Nat}(fX:a.length<1000)(gG:b.length<1000)(ha:Sm 10000 a)(hb:eK 10000 b)(ia:bj h n .i64 va a)(ib:bj h n .i64 vb b)(hle:val 10000 b<=val 10000 a)
 (hQ:∀v' l' h' n',Ext h n h' n'->bj h' n' .i64 v' l'->eK 10000 l'->val 10000 l'=val 10000 a - val 10000 b->(v'=.ns\/n.num<=v'.blk.num)->Q v' h' n'):τ C (.f 333 [] []) [va,vb] h n Q:=by
 refine τ.go hC.f333 U ?_;refine θ<|γ U<|ε ?_;refine θ<|γ U<|ε ?_;refine θ<|γ U<|ε ?_;refine ν<|θ<|γ U<|ε ?_;refine aK<|ae (agM hC fX gG ha hb.1 ia ib _ 0 [] 0 .ns h n rfl (by omega) U Sm.nil (by omega) (by simp[val]) (Gr.ns (Ext.refl h n)) ?_) ⟨rfl,rfl,rfl,rfl,rfl,trivial⟩;intro out bo vo h1 n1 E' hl hs CY hv hg hE;refine dB hE ?_;have iL:b.length<=a.length:=pU hb.2 ha (by omega) hle;rw[pF iL]at hv;have h2:=pS hs;rw[hl]at h2;have agP:bo=0:=by
  rcases jR 0 bo with h | h
  ·have:bo=1:=by omega
   subst this;omega
  ·omega
 subst agP;have hn:bj h1 n1 .i64 vo out:=hg.sl;refine θ<|γ U<|kl (Cn rfl hn.cells hn.one)<|al U U<|yO hC (by omega) hn <| λng v2 h2 n2 e2 i2 k2=>Af U U<|γ U<|ε ?_;refine aj ⟨_,rfl,hQ v2 (dE out) h2 n2 (hg.ext.trans e2) (i2.up e2.1) (rR hs) (by rw[pT];omega) (hg.ge.imp k2.2.1 λh=>by rw[k2.1];exact h)⟩
end
section
variable {C:Nat->Option bP}{h:Hf}{n:K}{Q:V->Hf->K->Prop}
theorem agQ{va vb:V}{a b:List Nat}(fX:a.length<1000)(hl:a.length=b.length)(ha:Sm 10000 a)(hb:Sm 10000 b)(ia:bj h n .i64 va a)(ib:bj h n .i64 vb b)(hQ:Q (.i .i64 (gJ (val 10000 a) (val 10000 b))) h n):
 ∀(m:Nat),m<=a.length->a.drop m=b.drop m->WC C TM [(k0,va),(k1,vb),(k5,.i .i64 ((m:Int) - 1))] h n (blk 0 (sq C TN (fq [.t k4] Q))):=by
 intro m
 induction m with
 | zero=>
  intro hm hd;have:a=b:=by simpa using hd
  subst this;refine aQ ?_;refine ν<|θ<|γ U<|fU U U<|ε ?_;refine aE U (by simp<;>omega)<|bW ?_;refine θ<|γ U<|ε (aj ⟨_,rfl,by rw[Wc]at hQ;exact hQ⟩)
 | succ m ih=>
  intro hm hd;have ψ:m<a.length:=by omega
  have iU:m<b.length:=by omega
  have e:((m+1:Nat):Int) - 1=(m:Nat):=by omega
  rw[e];have g1:=ia.get ψ 1;have g2:=ib.get iU 1;refine aQ ?_;refine ν<|θ<|γ U<|fU U U<|ε ?_;refine aD U (by simp<;>omega)<|ao ?_;refine ν<|aK<|ν<|eS<|aL U<|aL U<|et U U ia ψ<|bc U g1 U (by simp[dH,iC,dD,jW])<|aL U<|aL U<|et U U ib iU<|bc U g2 U (by simp[dH,iC,dD,jW])<|Lf U U<|dQ (by simp[AG,mn,pv,Nat.testBit]) ?_;by_cases bC:a[m]=b[m]
  ·refine aE U (by simp<;>omega)<|ao ?_;refine eS<|aL U<|aL U<|et U U ia ψ<|bc U g1 U (by simp[dH,iC,dD,jW])<|aL U<|aL U<|et U U ib iU<|bc U g2 U (by simp[dH,iC,dD,jW])<|wA U U<|dQ (by simp[AG,mn,pv,Nat.testBit]) ?_;refine aE U (by simp<;>omega)<|ao ?_;refine aR<|γ U<|jg U U ⟨by omega,by omega⟩<|γ U<|ε ?_;refine ae (ih (by omega) ?_) ⟨rfl,rfl,rfl,trivial⟩;rw[gi ψ,gi iU,hd,bC]
  ·rw[Wb ha hb hl ψ hd bC]at hQ;by_cases h1:a[m]<b[m]
   ·refine aD U (by simp<;>omega) ?_;refine θ<|γ U<|ε (aj ⟨_,rfl,by simpa[gJ,h1]using hQ⟩)
   ·refine aE U (by simp<;>omega)<|ao ?_;refine eS<|aL U<|aL U<|et U U ia ψ<|bc U g1 U (by simp[dH,iC,dD,jW])<|aL U<|aL U<|et U U ib iU<|bc U g2 U (by simp[dH,iC,dD,jW])<|wA U U<|dQ (by simp[AG,mn,pv,Nat.testBit]) ?_;refine aD U (by simp<;>omega) ?_;refine θ<|γ U<|ε (aj ⟨_,rfl,by simpa[gJ,h1,show b[m]<a[m] by omega]using hQ⟩)
theorem WA(hC:Cd C){va vb:V}{a b:List Nat}(fX:a.length<1000)(gG:b.length<1000)(ha:eK 10000 a)(hb:eK 10000 b)(ia:bj h n .i64 va a)(ib:bj h n .i64 vb b)(hQ:Q (.i .i64 (gJ (val 10000 a) (val 10000 b))) h n):τ C (.f 350 [] []) [va,vb] h n Q:=by
 refine τ.go hC.f350 U ?_;refine θ<|γ U<|ε ?_;refine ν<|θ<|γ U<|aG U ia<|γ U<|aG U ib<|fT U U<|ε ?_;by_cases hl:a.length=b.length
 ·refine aE U (by simp[hl])<|ao ?_;refine ν<|θ<|γ U<|aG U ia<|jg U U ⟨by omega,by omega⟩<|γ U<|ε ?_;exact aK<|ae (agQ fX hl ha.1 hb.1 ia ib hQ a.length (Γ _) (by rw[nH,hl,nH])) ⟨rfl,rfl,rfl,trivial⟩
 ·rw[Wa ha hb (by omega) hl]at hQ;refine aD U (by simp<;>omega) ?_;refine ν<|θ<|γ U<|aG U ia<|γ U<|aG U ib<|aP U U<|ε ?_;by_cases h1:a.length<b.length
  ·refine aD U (by simp<;>omega) ?_;refine θ<|γ U<|ε (aj ⟨_,rfl,by simpa[gJ,h1]using hQ⟩)
  ·refine aE U (by simp<;>omega)<|ao ?_;refine θ<|γ U<|ε (aj ⟨_,rfl,by simpa[gJ,h1,show b.length<a.length by omega]using hQ⟩)
structure Pr(h0:Hf)(n0:K)(h:Hf)(n:K)(b2 b3 bo:K)(na nb:Bool)(va vb:V)(L:Nat)(out:List Nat):Prop where
 ext:Ext h0 n0 h n
 c2:Cl h n b2 [.b na,va] 310
 c3:Cl h n b3 [.b nb,vb] 310
 co:Cl h n bo (nC .i64 out) 3
 lo:n0.num<=bo.num
 ne2:b2.num≠bo.num
 CZ:b3.num≠bo.num
 len:out.length=L
 sm:Sm 10000 out
theorem Pr.set{h0:Hf}{n0:K}{b2 b3 bo:K}{na nb:Bool}{va vb:V}{L:Nat}{out:List Nat}(p:Pr h0 n0 h n b2 b3 bo na nb va vb L out){i x:Nat}{h':Hf}(hx:x<10000)(a:h' bo=some (.c (nC .i64 (out.set i x)) 3 0))(b:df bo h h'):Pr h0 n0 h' n b2 b3 bo na nb va vb L (out.set i x):=
 ⟨p.ext.aA b p.lo,p.c2.aA b p.ne2,p.c3.aA b p.CZ,⟨p.co.1,a⟩,p.lo,p.ne2,p.CZ,by rw[mL];exact p.len,p.sm.set hx⟩
theorem yP{l:List Nat}{i j x:Nat}:(l.set i x).getD j 0=if i=j/\i<l.length then x else l.getD j 0:=by
 rw[fF,fF,List.getElem?_set];by_cases h:i=j
 ·subst h;by_cases h2:i<l.length
  ·simp[h2]
  ·simp[h2,xr (show l.length<=i by omega)]
 ·simp[h]
section
variable {h0:Hf}{n0 b2 b3 bo:K}{na nb:Bool}{va vb x4:V}{a b:List Nat}
theorem WB(hC:Cd C)(fX:a.length<1000)(gG:b.length<1000)(ha:Sm 10000 a)(hb:Sm 10000 b)(ia:bj h0 n0 .i64 va a)(ib:bj h0 n0 .i64 vb b){i:Nat}(hi:i<a.length){out:List Nat}{carry j:Nat}
 (p:Pr h0 n0 h n b2 b3 bo na nb va vb (a.length+b.length+1) out)(hc:carry<10000)(hj:j<=b.length){Q1:Ex->Env->Hf->K->Prop}
 (hQ:∀h' E',Pr h0 n0 h' n b2 b3 bo na nb va vb (a.length+b.length+1) (out.set (i+j) ((out.getD (i+j) 0+a[i]*b.getD j 0+carry) % 10000))->da [(k2,.p b2 0),(k3,.p b3 0),(k4,x4),(k5,.sl bo 0 (a.length+b.length+1) (a.length+b.length+1)),(k6,.i .i64 (i:Nat)),(k7,.i .i64 ((out.getD (i+j) 0+a[i]*b.getD j 0+carry) / 10000:Nat)),(k8,.i .i64 (j:Nat))] E'->Q1 .normal E' h' n):
 WC C TP [(k2,.p b2 0),(k3,.p b3 0),(k4,x4),(k5,.sl bo 0 (a.length+b.length+1) (a.length+b.length+1)),(k6,.i .i64 (i:Nat)),(k7,.i .i64 (carry:Nat)),(k8,.i .i64 (j:Nat))] h n Q1:=by
 have io:bj h n .i64 (.sl bo 0 (a.length+b.length+1) (a.length+b.length+1)) out:=p.co.qL p.len;have ua:i+j<a.length+b.length+1:=by omega
 have pV:i+j<out.length:=by rw[p.len];exact ua
 have go:=io.get pV 1;have pf:=ia.at_ p.ext;have ga:=pf.get hi 1;have pA:=(ib.at_ p.ext).up p.ext.1;have q1:out[i+j]<10000:=p.sm.get pV;have q2:a[i]<10000:=ha.get hi;have q3:b.getD j 0<10000:=hb.getD (by omega) j;rw[jt pV]at hQ;have tL:∀{Q:V->Hf->K->Prop},Q (.i .i64 (b.getD j 0:Nat)) h n->τ C (.f 352 [] []) [vb,.i .i64 (j:Nat)] h n Q:=λhQ=>Wv hC pA (by omega) hQ;generalize CP:out[i+j]=od at*;generalize MM:a[i]=ad at*;generalize qJ:b.getD j 0=bd at*;have hmul:ad*bd<=9999*9999:=vO (by omega) (by omega);have e1:(ad:Int)*(bd:Int)=(ad*bd:Nat):=by simp
 have YZ:cD h false 1 (.p b2 (0+1))=some va:=p.c2.ld U _;have Y0:cD h false 1 (.p b3 (0+1))=some vb:=p.c3.ld U _;have ba:cu n va=true:=pf.up p.ext.1 |>.below (Γ _);have bb:cu n vb=true:=pA.below (Γ _);refine eS<|aL U<|aL U<|aL U<|Eo U U U ⟨by omega,by omega⟩<|et U U io pV<|bc U go U (by simp[dH,iC,dD,jW])<|dG U<|bc U YZ ba (ρ.dX pf)<|aL U<|et U U pf hi<|bc U ga U (by simp[dH,iC,dD,jW])<|dG U<|bc U Y0 bb (ρ.dX pA)<|aL U<|cJ U U<|tL<|Ak U U e1 ⟨by omega,by omega⟩<|yB U U ⟨by omega,by omega⟩<|aL U<|yB U U ⟨by omega,by omega⟩<|aL U<|dQ (⟨⟨Ay Y0 Y0,trivial⟩,⟨⟨Ay ga ga,trivial⟩,⟨⟨Ay YZ YZ,trivial⟩,⟨⟨Ay go go,trivial⟩,trivial⟩⟩⟩⟩) ?_;have e2:(od:Int)+(ad*bd:Nat)+(carry:Int)=((od+ad*bd+carry:Nat):Int):=by omega
 rw[e2];generalize hx:od+ad*bd+carry=x at*;refine θ<|γ U<|γ U<|γ U<|kp U U U ⟨by omega,by omega⟩<|γ U<|HU (b:=10000) U U (by omega)<|bh U U io pV<|ct U U p.co.2 (yC pV _ (by simp[V.off])) <| λh1 a1 b1=>ε ?_;refine aR<|γ U<|Ej (b:=10000) U U (by omega) ⟨by omega,by omega⟩<|γ U<|ε ?_;exact hQ h1 _ (p.set (mb _ (by omega)) a1 b1) ⟨rfl,rfl,rfl,rfl,rfl,rfl,rfl,trivial⟩
theorem agS(hC:Cd C)(fX:a.length<1000)(gG:b.length<1000)(ha:Sm 10000 a)(hb:Sm 10000 b)(ia:bj h0 n0 .i64 va a)(ib:bj h0 n0 .i64 vb b){i:Nat}(hi:i<a.length)(V0:Nat){Q1:Ex->Env->Hf->K->Prop}
 (hQ:∀out h' E',Pr h0 n0 h' n b2 b3 bo na nb va vb (a.length+b.length+1) out->val 10000 out=V0+a[i]*val 10000 b*10000 ^ i->(∀k,i+1+b.length<=k->out.getD k 0=0)->da [(k2,.p b2 0),(k3,.p b3 0),(k4,x4),(k5,.sl bo 0 (a.length+b.length+1) (a.length+b.length+1)),(k6,.i .i64 (i:Nat))] E'->Q1 .normal E' h' n):
 ∀(m j:Nat) (out:List Nat) (carry:Nat) (h:Hf),b.length - j=m->j<=b.length->Pr h0 n0 h n b2 b3 bo na nb va vb (a.length+b.length+1) out->carry<10000->val 10000 out+carry*10000 ^ (i+j)=V0+a[i]*val 10000 (b.take j)*10000 ^ i->(∀k,i+b.length<=k->out.getD k 0=0)->WC C TQ [(k2,.p b2 0),(k3,.p b3 0),(k4,x4),(k5,.sl bo 0 (a.length+b.length+1) (a.length+b.length+1)),(k6,.i .i64 (i:Nat)),(k7,.i .i64 (carry:Nat)),(k8,.i .i64 (j:Nat))] h n (blk 2 Q1):=by
 intro m
 induction m with
 | zero=>
  intro j out carry h hm hj p hc hv hz;have ej:j=b.length:=by omega
  subst ej;have pA:=ib.at_ p.ext;rw[fO]at hv;refine aQ ?_;by_cases h0:carry=0
  ·subst h0;refine ν<|θ<|γ U<|Ω U<|χ U (p.c3.ld U _)<|aG U pA<|aP U U<|γ U<|κ U (by simp)<|γ U<|κ U (by simp)<|cQ U U<|bE U (by simp) U<|ε ?_;refine aE U U<|bW (hQ out h _ p (by omega) (λk hk=>hz k (by omega)) ⟨rfl,rfl,rfl,rfl,rfl,trivial⟩)
  ·refine ν<|θ<|γ U<|Ω U<|χ U (p.c3.ld U _)<|aG U pA<|aP U U<|γ U<|κ U (by simp)<|γ U<|κ U (by simp)<|cQ U U<|bE U (by simp) U<|ε ?_;refine aD U (by simp<;>omega)<|ao<|ν<|aK ?_;have z1:=hz (i+b.length) (by omega);have z2:b.getD b.length 0=0:=by simp
   have pa:i+b.length<out.length:=by rw[p.len];omega
   refine ae (WB hC fX gG ha hb ia ib hi p hc (Γ _) ?_) ⟨rfl,rfl,rfl,rfl,rfl,rfl,rfl,trivial⟩;intro h1 E1 p1 s1;simp only[z1,z2,kM,hY,zw hc]at p1;simp only[z1,z2,kM,hY,Nat.div_eq_of_lt hc]at s1;refine dB s1 ?_;refine aR<|γ U<|cK U U ⟨by omega,by omega⟩<|γ U<|ε ?_;refine aQ ?_;have ib1:=ib.at_ p1.ext;refine ν<|θ<|γ U<|Ω U<|χ U (p1.c3.ld U _)<|aG U ib1<|aP U U<|γ U<|κ U (by simp<;>omega)<|γ U<|κ U (by simp<;>omega)<|cQ U U<|bE U (by simp<;>omega) U<|ε ?_;have vs:=Iw (B:=10000) out pa carry;have e0:out[i+b.length]=0:=by rw[←jt pa];exact z1
   rw[e0,kM,j8,dY (10000 ^ (i+b.length))]at vs;refine aE U U<|bW (hQ _ h1 _ p1 (by rw[vs];exact hv) (λk hk=>?_) ⟨rfl,rfl,rfl,rfl,rfl,trivial⟩);rw[yP,ai (by omega)];exact hz k (by omega)
 | succ m ih=>
  intro j out carry h hm hj p hc hv hz;have ψ:j<b.length:=by omega
  have pA:=ib.at_ p.ext;have pa:i+j<out.length:=by rw[p.len];omega
  refine aQ ?_;refine ν<|θ<|γ U<|Ω U<|χ U (p.c3.ld U _)<|aG U pA<|aP U U<|γ U<|σ U (by simp<;>omega)<|σ U (by simp<;>omega)<|cg U (by simp<;>omega) U<|ε ?_;refine aD U U<|ao<|ν<|aK ?_;refine ae (WB hC fX gG ha hb ia ib hi p hc hj ?_) ⟨rfl,rfl,rfl,rfl,rfl,rfl,rfl,trivial⟩;intro h1 E1 p1 s1;refine dB s1 ?_;have q1:out[i+j]<10000:=p.sm.get pa;have q2:a[i]<10000:=ha.get hi;have q3:b.getD j 0<10000:=hb.getD (by omega) j;have t1:=vi (B:=10000) b j;rw[jt pa]at p1 s1 ⊢;have vs:=Iw (B:=10000) out pa ((out[i+j]+a[i]*b.getD j 0+carry) % 10000);generalize CP:out[i+j]=od at*;generalize MM:a[i]=ad at*;generalize qJ:b.getD j 0=bd at*;have hmul:ad*bd<=9999*9999:=vO (by omega) (by omega);refine aR<|γ U<|cK U U ⟨by omega,by omega⟩<|γ U<|ε ?_;refine ae (ih (j+1) _ _ h1 (by omega) (by omega) p1 (by omega) ?_ (λk hk=>?_)) ⟨rfl,rfl,rfl,rfl,rfl,rfl,rfl,trivial⟩
  ·have dm:=xB (od+ad*bd+carry) 10000;generalize (od+ad*bd+carry) / 10000=qx at*;generalize (od+ad*bd+carry) % 10000=rx at*;rw[t1];have e1:10000 ^ (i+j)*od+10000 ^ (i+j)*(ad*bd)+10000 ^ (i+j)*carry=10000 ^ (i+j)*rx+10000 ^ (i+j)*(10000*qx):=by
    rw[←gB,←gB,←gB];congr 1;omega
   have e2:qx*10000 ^ (i+(j+1))=10000 ^ (i+j)*(10000*qx):=by rw[←mM,gW,dY,iX]
   have e3:ad*(val 10000 (List.take j b)+10000 ^ j*bd)*10000 ^ i=ad*val 10000 (List.take j b)*10000 ^ i+10000 ^ (i+j)*(ad*bd):=by rw[gB,iO];congr 1;rw[Nat.pow_add];simp only[dY,Nat.mul_left_comm,iX]
   have e4:carry*10000 ^ (i+j)=10000 ^ (i+j)*carry:=dY _ _;rw[e3];omega
  ·rw[yP,ai (by omega)];exact hz k hk
theorem agT(hC:Cd C)(fX:a.length<1000)(gG:b.length<1000)(ha:Sm 10000 a)(hb:Sm 10000 b)(ia:bj h0 n0 .i64 va a)(ib:bj h0 n0 .i64 vb b){Q1:Ex->Env->Hf->K->Prop}
 (hQ:∀out h' E',Pr h0 n0 h' n b2 b3 bo na nb va vb (a.length+b.length+1) out->val 10000 out=val 10000 a*val 10000 b->da [(k2,.p b2 0),(k3,.p b3 0),(k4,x4),(k5,.sl bo 0 (a.length+b.length+1) (a.length+b.length+1))] E'->Q1 .normal E' h' n):
 ∀(m i:Nat) (out:List Nat) (h:Hf),a.length - i=m->i<=a.length->Pr h0 n0 h n b2 b3 bo na nb va vb (a.length+b.length+1) out->val 10000 out=val 10000 (a.take i)*val 10000 b->(∀k,i+b.length<=k->out.getD k 0=0)->WC C TR [(k2,.p b2 0),(k3,.p b3 0),(k4,x4),(k5,.sl bo 0 (a.length+b.length+1) (a.length+b.length+1)),(k6,.i .i64 (i:Nat))] h n (blk 0 Q1):=by
 intro m
 induction m with
 | zero=>
  intro i out h hm hi p hv hz;have ei:i=a.length:=by omega
  subst ei;have pf:=ia.at_ p.ext;rw[fO]at hv;refine aQ ?_;refine ν<|θ<|γ U<|Ω U<|χ U (p.c2.ld U _)<|aG U pf<|aP U U<|ε ?_;exact aE U (by simp)<|bW (hQ out h _ p hv ⟨rfl,rfl,rfl,rfl,trivial⟩)
 | succ m ih=>
  intro i out h hm hi p hv hz;have ψ:i<a.length:=by omega
  have pf:=ia.at_ p.ext;refine aQ ?_;refine ν<|θ<|γ U<|Ω U<|χ U (p.c2.ld U _)<|aG U pf<|aP U U<|ε ?_;refine aD U (by simp<;>omega)<|ao ?_;refine ν<|aK<|θ<|γ U<|ε ?_;refine θ<|γ U<|ε ?_;refine aK<|ae (agS hC fX gG ha hb ia ib ψ (val 10000 out) ?_ _ 0 out 0 h rfl (by omega) p (by omega) (by simp[val]) hz) ⟨rfl,rfl,rfl,rfl,rfl,rfl,rfl,trivial⟩;intro MN h1 E1 p1 v1 z1 s1;refine dB s1 ?_;refine aR<|γ U<|cK U U ⟨by omega,by omega⟩<|γ U<|ε ?_;refine ae (ih (i+1) MN h1 (by omega) (by omega) p1 ?_ z1) ⟨rfl,rfl,rfl,rfl,rfl,trivial⟩;rw[v1,hv,vi,jt ψ,iO];congr 1;simp only[dY,Nat.mul_left_comm,iX]
end
theorem agU(hC:Cd C){va vb:V}{a b:List Nat}(fX:a.length<1000)(gG:b.length<1000)(ha:Sm 10000 a)(hb:Sm 10000 b)(ia:bj h n .i64 va a)(ib:bj h n .i64 vb b)
 (hQ:∀ng v' l' h' n',Ext h n h' n'->bj h' n' .i64 v' l'->eK 10000 l'->val 10000 l'=val 10000 a*val 10000 b->Q (.a [.b ng,v']) h' n'):τ C (.f 362 [] []) [.a [.b false,va],.a [.b false,vb]] h n Q:=by
 refine τ.go hC.f362 U ?_;have h1:=ia.one;have nu:=ib.one;refine θ<|eL U U (jL rfl h1) <| λh1 n1 dZ a1 e1=>eL U U (jL rfl nu) <| λh2 n2 fB a2 e2=>ea <| λh3 n3 lz a3 e3=>ε ?_;have mI:=e1.trans e2;have kL:=mI.trans e3;have c1:Cl h3 n3 n [.b false,va] 310:=Cl.ext (Cl.ext ⟨by omega,a1⟩ e2) e3;have c2:Cl h3 n3 n1 [.b false,vb] 310:=Cl.ext ⟨by omega,a2⟩ e3;have c3:Cl h3 n3 n2 [.b false,.ns] 310:=⟨by omega,a3⟩;have qM:=ia.at_ kL;have qN:=ib.at_ kL;refine θ<|Ω U<|χ U (c1.ld U _)<|aG U qM<|Ω U<|χ U (c2.ld U _)<|aG U qN<|kp U U (show(a.length:Int)+(b.length:Int)=((a.length+b.length:Nat):Int) from rfl) ⟨by omega,by omega⟩<|kp U U (show((a.length+b.length:Nat):Int)+1=((a.length+b.length+1:Nat):Int) from rfl) ⟨by omega,by omega⟩<|uX U U (by omega) (by omega) <| λh4 n4 nE a4 e4=>γ U<|ε ?_;rw[Aj]at a4;have qM:=qM.up kL.1;have qN:=qN.up kL.1;have p:Pr h3 n3 h4 n4 n n1 n3 false false va vb (a.length+b.length+1) (List.replicate (a.length+b.length+1) 0):=
  ⟨e4,c1.ext e4,c2.ext e4,⟨by omega,a4⟩,Γ _,by omega,by omega,by simp,Sm.rep (by omega) _⟩
 refine ν<|θ<|γ U<|ε ?_;refine aK<|ae (agT hC fX gG ha hb qM qN ?_ _ 0 _ h4 rfl (by omega) p (by rw[V7];simp[val]) (λk _=>by simp[fF,List.getElem?_replicate];split<;>rfl)) ⟨rfl,rfl,rfl,rfl,rfl,trivial⟩;intro out h5 E5 p5 v5 s5;refine dB s5 ?_;have io:bj h5 n4 .i64 (.sl n3 0 (a.length+b.length+1) (a.length+b.length+1)) out:=p5.co.qL p5.len;have d3:=c3.ext p5.ext;refine θ<|Ω U<|χ U (p5.c2.ld U _)<|Ω U<|χ U (p5.c3.ld U _)<|Lg U U<|γ U<|kl (Ww rfl rfl rfl rfl rfl rfl)<|al U U<|yO hC (by have:=p5.len;omega) io <| λng v6 h6 n6 e6 i6 k6=>ct U U ((d3.ext e6).2) (rV (jL rfl i6.one)) <| λh7 a7 b7=>ε ?_;have JB:Ext h n h7 n6:=((kL.trans p5.ext).trans e6).aA b7 (by omega);refine aj ⟨_,kP rfl (cz a7 rfl),?_⟩;exact hQ ng v6 (dE out) h7 n6 JB ((i6.up e6.1).aA b7 (Or.inr (by rw[k6.1];show n3.num≠n2.num;omega))) (rR p5.sm) (by rw[pT,v5])
theorem WE(hC:Cd C){va:V}{a:List Nat}{d:Nat}(fX:a.length<1000)(ha:Sm 10000 a)(hd:d<10000)(ia:bj h n .i64 va a)
 (hQ:∀v' l' h' n',Ext h n h' n'->bj h' n' .i64 v' l'->eK 10000 l'->val 10000 l'=val 10000 a*d->Q v' h' n'):τ C (.f 351 [] []) [va,.i .i64 (d:Nat)] h n Q:=by
 refine τ.go hC.f351 U ?_;refine θ<|γ U<|ε ?_;refine θ<|γ U<|kl (Cn rfl ia.cells ia.one)<|γ U<|fx U <| λh1 n1 dZ a1 e1=>kl U<|al U U<|agU hC (b:=[d]) fX (by simp) ha (Sm.cons hd Sm.nil) ((ia.at_ e1).up e1.1) (ρ.whole (len:=1) (by omega) a1 rfl) <| λng v2 l2 h2 n2 e2 i2 r2 F6=>Af U U<|γ U<|ε ?_;refine aj ⟨_,rfl,hQ v2 l2 h2 n2 (e1.trans e2) i2 r2 (by rw[F6];simp[val])⟩
end
section
variable {C:Nat->Option bP}{h:Hf}{n:K}{Q:V->Hf->K->Prop}
theorem IF{B k:Nat}{l:List Nat}(hl:Nz l)(hB:1<B)(h:val B l<B ^ k):l.length<=k:=by
 by_cases bC:l=[]
 ·simp[bC]
 ·have h1:=Ix (B:=B) hl (by omega) bC;have h2:l.length - 1<k:=(Nat.pow_lt_pow_iff_right hB).1 (by omega);omega
theorem WG{a b:Nat}:(gJ a b<=0)↔a<=b:=by
 unfold gJ;split
 ·simp;omega
 ·split
  ·simp;omega
  ·simp;omega
theorem WH{a b:Nat}:(gJ a b<0)↔a<b:=by
 unfold gJ;split
 ·simp;omega
 ·split
  ·simp;omega
  ·simp;omega
theorem MO{b l:List Nat}{d:Nat}(hb:Sm 10000 b)(hl:Nz l)(hd:d<10000)(hv:val 10000 l=val 10000 b*d):l.length<=b.length+1:=by refine IF (B:=10000) hl (by omega) ?_;have h1:=pS hb;have h2:val 10000 b*d<=val 10000 b*10000:=rp _ (by omega);have h3:val 10000 b*10000<10000 ^ b.length*10000:=Nat.mul_lt_mul_of_pos_right h1 (by omega);rw[hv,gW];omega
section
variable {h0:Hf}{n0:K}{va vb vr vq:V}{b r:List Nat}{i8:Int}
theorem agV(hC:Cd C)(gG:b.length<500)(hlr:r.length<600)(hb:eK 10000 b)(hr:eK 10000 r)(ib:bj h0 n0 .i64 vb b)(ir:bj h0 n0 .i64 vr r){Q1:Ex->Env->Hf->K->Prop}
 (hQ:∀low h n E',low<=9999->low*val 10000 b<=val 10000 r->val 10000 r<(low+1)*val 10000 b->Ext h0 n0 h n->da [(k0,va),(k1,vb),(k6,vq),(k7,vr),(k8,.i .i64 i8),(k9,.i .i64 (low:Nat))] E'->Q1 .normal E' h n):
 ∀(m low high:Nat) (h:Hf) (n:K),high - low<=m->low<=high->high<=9999->low*val 10000 b<=val 10000 r->val 10000 r<(high+1)*val 10000 b->Ext h0 n0 h n->WC C LB [(k0,va),(k1,vb),(k6,vq),(k7,vr),(k8,.i .i64 i8),(k9,.i .i64 (low:Nat)),(aF,.i .i64 (high:Nat))] h n (blk 2 Q1):=by
 intro m
 induction m with
 | zero=>
  intro low high h n hm h1 h2 h3 h4 he;have:low=high:=by omega
  subst this;refine aQ ?_;refine ν<|θ<|γ U<|γ U<|aP U U<|ε ?_;exact aE U (by simp)<|bW (hQ low h n _ h2 h3 h4 he ⟨rfl,rfl,rfl,rfl,rfl,rfl,trivial⟩)
 | succ m ih=>
  intro low high h n hm g1 g2 g3 g4 he;refine aQ ?_;refine ν<|θ<|γ U<|γ U<|aP U U<|ε ?_;refine di U (λhx=>?_) (λhx=>?_)
  case refine_2=>
   simp only[dn]at hx;have:low=high:=by omega
   subst this;exact bW (hQ low h n _ g2 g3 g4 he ⟨rfl,rfl,rfl,rfl,rfl,rfl,trivial⟩)
  simp only[bT]at hx;refine ao ?_;refine aK<|θ<|γ U<|γ U<|kp U U (show(low:Int)+(high:Int)=((low+high:Nat):Int) from rfl) ⟨by omega,by omega⟩<|kp U U (show((low+high:Nat):Int)+1=((low+high+1:Nat):Int) from rfl) ⟨by omega,by omega⟩<|Ej (b:=2) U U (by omega) ⟨by omega,by omega⟩<|γ U<|ε ?_;obtain⟨mid,agW⟩:∃mid,mid=(low+high+1) / 2:=⟨_,rfl⟩;rw[←agW];have tY:low<mid:=by omega
  have Jr:mid<=high:=by omega
  have iL:=pS hb.1;have pA:=(ib.at_ he).up he.1;have key:∀{Q:V->Hf->K->Prop},(∀v' l' h' n',Ext h n h' n'->bj h' n' .i64 v' l'->eK 10000 l'->val 10000 l'=val 10000 b*mid->Q v' h' n')->τ C (.f 351 [] []) [vb,.i .i64 (mid:Nat)] h n Q:=λhQ=>WE hC (by omega) hb.1 (by omega) pA hQ;refine θ<|γ U<|γ U<|al U U<|key <| λv1 l1 h1 n1 e1 i1 q1 y1=>kl (Cn rfl i1.cells i1.one)<|al U U<|yO hC (by have:=MO hb.1 q1.2 (by omega) y1;omega) i1 <| λng v2 h2 n2 e2 i2 k2=>Af U U<|γ U<|al U U<|WA hC (by have:=MO hb.1 q1.2 (by omega) y1;rw[V9 q1.2];omega) (by omega) (rR q1.1) hr (i2.up e2.1) ((ir.at_ (he.trans (e1.trans e2))).up (he.trans (e1.trans e2)).1)<|oW U U<|ε ?_;rw[pT,y1];have Jo:=he.trans (e1.trans e2);have ec:val 10000 b*mid=mid*val 10000 b:=dY _ _;refine di U (λhx=>?_) (λhx=>?_)
  ·simp only[bT]at hx;refine aR<|γ U<|γ U<|ε ?_;exact ae (ih mid high h2 n2 (by omega) Jr g2 (by have:=WG.1 hx;omega) g4 Jo) ⟨rfl,rfl,rfl,rfl,rfl,rfl,rfl,trivial⟩
  ·simp only[dn]at hx;have oN:¬ val 10000 b*mid<=val 10000 r:=λe=>hx (WG.2 e);refine aR<|γ U<|kQ U U (show(mid:Int) - 1=((mid - 1:Nat):Int) by omega) ⟨by omega,by omega⟩<|γ U<|ε ?_;refine ae (ih low (mid - 1) h2 n2 (by omega) (by omega) (by omega) g3 ?_ Jo) ⟨rfl,rfl,rfl,rfl,rfl,rfl,rfl,trivial⟩;rw[show mid - 1+1=mid by omega];omega
end
section
variable {h0:Hf}{n0:K}{va vb:V}{a b:List Nat}{bq:K}
theorem agX(hC:Cd C)(fX:a.length<500)(gG:b.length<500)(ha:Sm 10000 a)(hb:eK 10000 b)(eJ:b≠[])(ia:bj h0 n0 .i64 va a)(ib:bj h0 n0 .i64 vb b)(hq:n0.num<=bq.num){Q1:Ex->Env->Hf->K->Prop}
 (hQ:∀q r vr h n E',q.length=a.length->Cl h n bq (nC .i64 q) 3->(vr=.ns\/bq.num<vr.blk.num)->bj h n .i64 vr r->eK 10000 r->val 10000 r=val 10000 a % val 10000 b->Ext h0 n0 h n->da [(k6,.sl bq 0 a.length a.length),(k7,vr)] E'->Q1 .normal E' h n):
 ∀(m:Nat) (q r:List Nat) (vr:V) (h:Hf) (n:K),m<=a.length->q.length=a.length->Cl h n bq (nC .i64 q) 3->bj h n .i64 vr r->(vr=.ns\/bq.num<vr.blk.num)->eK 10000 r->val 10000 r=val 10000 (a.drop m) % val 10000 b->Ext h0 n0 h n->WC C TL [(k0,va),(k1,vb),(k6,.sl bq 0 a.length a.length),(k7,vr),(k8,.i .i64 ((m:Int) - 1))] h n (blk 0 Q1):=by
 have F7:0<val 10000 b:=xy λe=>eJ ((val_zero (B:=10000) hb.2 (by omega)).1 e);intro m
 induction m with
 | zero=>
  intro q r vr h n hm JD hc ir hvr hr hv he;refine aQ ?_;refine ν<|θ<|γ U<|fU U U<|ε ?_;exact aE U (by simp<;>omega)<|bW (hQ q r vr h n _ JD hc hvr ir hr hv he ⟨rfl,rfl,trivial⟩)
 | succ m ih=>
  intro q r vr h n hm JD hc ir hvr hr hv he;have ψ:m<a.length:=by omega
  have em:((m+1:Nat):Int) - 1=(m:Nat):=by omega
  rw[em];have pf:=ia.at_ he;have ga:=pf.get ψ 1;have oP:r.length<=b.length:=pU hr.2 hb.1 (by omega) (by have:=mb (val 10000 (a.drop (m+1))) F7;omega);refine aQ ?_;refine ν<|θ<|γ U<|fU U U<|ε ?_;refine aD U (by simp<;>omega)<|ao ?_;have aqe:r.length<=b.length:=oP;refine ν<|aK<|θ<|γ U<|γ U<|bh U U pf ψ<|χ U ga<|fx U <| λh1 n1 dZ a1 e1=>γ U<|RW U (ρ.whole (len:=1) (by omega) a1 rfl) U ((ir.ext e1)) (by omega) (by omega) (by omega) <| λv2 h2 n2 i2 e2 fB k2=>kl (Cn rfl (ρ.cells i2) (ρ.one i2))<|al U U<|yO hC (l:=a[m]::r) (by simp;omega) (show ρ h2 n2 1 v2 (a[m]::r).length _ by simpa[nC,qs]using i2) <| λng v3 h3 n3 e3 i3 k3=>Af U U<|γ U<|ε ?_;have sm1:Sm 10000 (a[m]::r):=Sm.cons (ha.get ψ) hr.1;have q3:=rR sm1;have OP:Ext h0 n0 h3 n3:=he.trans ((e1.trans e2).trans e3);have vR:val 10000 (dE (a[m]::r))=a[m]+10000*val 10000 r:=by rw[pT];rfl
  have hRl:(dE (a[m]::r)).length<=b.length+1:=by refine IF (B:=10000) q3.2 (by omega) ?_;have h1:=pS sm1;rw[pT];refine fN h1 (zu (by omega) (by simp;omega))
  have iU:val 10000 (dE (a[m]::r))<10000*val 10000 b:=by have h1:=mb (val 10000 (a.drop (m+1))) F7;have h2:a[m]<10000:=ha.get ψ;have h3:10000*(val 10000 r+1)<=10000*val 10000 b:=rp _ (by omega);rw[vR];omega
  have WI:val 10000 (dE (a[m]::r)) % val 10000 b=val 10000 (a.drop m) % val 10000 b:=by rw[vR,hv,Mx,←As a ψ]
  generalize hR:dE (a[m]::r)=R at*;have Az:v3=.ns\/bq.num<v3.blk.num:=by right;rw[k3.1];have:=hc.1;rcases k2 with k | k<;>rw[k]<;>omega
  have A8:=hc.ext ((e1.trans e2).trans e3);have qN:=ib.at_ OP;have iR:=i3.up e3.1;refine θ<|γ U<|γ U<|ε ?_;refine ν<|θ<|γ U<|γ U<|al U U<|WA hC (by omega) (by omega) q3 hb iR (qN.up OP.1)<|aP U U<|ε ?_;have bs:∀high:Nat,high<=9999->val 10000 R<(high+1)*val 10000 b->WC C (.block 2 LB) [(k0,va),(k1,vb),(k6,.sl bq 0 a.length a.length),(k7,v3),(k8,.i .i64 (m:Nat)),(k9,.i .i64 ((0:Nat):Int)),(aF,.i .i64 (high:Nat))] h3 n3 (sq C TK (blk 1 (sq C LC (sq C (.loop LF) (blk 0 Q1))))):=by
   intro high hh hh2;refine aK<|agV hC gG (by omega) hb q3 (qN.up OP.1) iR ?_ high 0 high h3 n3 (by omega) (by omega) hh (by omega) hh2 (Ext.refl h3 n3);intro low h4 n4 E4 l1 l2 l3 e4 s4;refine dB s4 ?_;have tK:=A8.ext e4;have iq:=tK.qL JD;have hmq:m<q.length:=by omega
   have gz:=hc.1;refine θ<|γ U<|γ U<|γ U<|bh U U iq hmq<|ct U U tK.2 (yC hmq _ (by simp[V.off])) <| λh5 a5 b5=>ε ?_;have Y1:Cl h5 n4 bq (nC .i64 (q.set m low)) 3:=⟨tK.1,a5⟩;have iR5:bj h5 n4 .i64 v3 R:=(iR.ext e4).aA b5 (Az.imp id λh=>Nat.ne_of_gt h);have OQ:Ext h0 n0 h5 n4:=(OP.trans e4).aA b5 hq;have uo:=(ib.at_ OQ).up OQ.1;have next:∀r' m7 h6 n6,Cl h6 n6 bq (nC .i64 (q.set m low)) 3->bj h6 n6 .i64 m7 r'->(m7=.ns\/bq.num<m7.blk.num)->eK 10000 r'->val 10000 r'=val 10000 (a.drop m) % val 10000 b->Ext h0 n0 h6 n6->WC C LC [(k0,va),(k1,vb),(k6,.sl bq 0 a.length a.length),(k7,m7),(k8,.i .i64 (m:Nat))] h6 n6 (sq C (.loop LF) (blk 0 Q1)):=by intro r' m7 h6 n6 g1 g2 g3 g4 g5 g6;refine aR<|γ U<|jg U U ⟨by omega,by omega⟩<|γ U<|ε ?_;exact ae (ih (q.set m low) r' m7 h6 n6 (by omega) (by rw[mL];exact JD) g1 g2 g3 g4 g5 g6) ⟨rfl,rfl,rfl,rfl,rfl,trivial⟩
   refine θ<|γ U<|cQ U U<|ε ?_;refine di U (λhx=>?_) (λhx=>ao ?_)
   ·simp only[bT]at hx;refine aR<|γ U<|γ U<|γ U<|al U U<|WE hC (d:=low) (by omega) hb.1 (by omega) uo <| λv6 l6 h6 n6 e6 i6 q6 y6=>al U U<|agO hC (by omega) (by have:=MO hb.1 q6.2 (by omega) y6;omega) q3.1 q6 (iR5.ext e6) i6 (by rw[y6,dY];exact l2) <| λv7 l7 h7 n7 e7 i7 q7 y7 k7=>γ U<|ε ?_;have e67:=e6.trans e7;refine ae (next l7 v7 h7 n7 (Y1.ext e67) i7 (k7.imp id λh=>?_) q7 ?_ (OQ.trans e67)) ⟨rfl,rfl,rfl,rfl,rfl,trivial⟩
    ·have:=e6.1;have:=Y1.1;omega
    ·rw[y7,y6,dY,←WI];refine Wd F7 l2 ?_;rw[iO,Nat.one_mul]at l3;exact l3
   ·simp only[dn]at hx;have h0':low=0:=by omega
    refine ae (next R v3 h5 n4 Y1 iR5 Az q3 ?_ OQ) ⟨rfl,rfl,rfl,rfl,rfl,trivial⟩;rw[←WI,zw];rw[h0']at l3;omega
  refine di U (λhx=>?_) (λhx=>ao ?_)
  ·simp only[bT]at hx;refine aR<|γ U<|ε ?_;exact ν<|ae (bs 0 (by omega) (by have:=WH.1 hx;omega)) ⟨rfl,rfl,rfl,rfl,rfl,rfl,rfl,trivial⟩
  ·exact ν<|ae (bs 9999 (by omega) iU) ⟨rfl,rfl,rfl,rfl,rfl,rfl,rfl,trivial⟩
end
theorem AA:∀l:List Nat,(dE l).length<=l.length:=by
 intro l
 induction l with
 | nil=>simp[dE]
 | cons a l ih=>
  simp only[dE];split
  ·split<;>simp
  ·rename_i b m h;rw[h]at ih;simp at ih ⊢;omega
theorem ag3(hC:Cd C){va vb:V}{a b:List Nat}(fX:a.length<500)(gG:b.length<500)(ha:Sm 10000 a)(hb:eK 10000 b)(eJ:b≠[])(ia:bj h n .i64 va a)(ib:bj h n .i64 vb b)
 (hQ:∀vq q vr r h' n',Ext h n h' n'->bj h' n' .i64 vq q->q.length<=a.length->bj h' n' .i64 vr r->eK 10000 r->val 10000 r=val 10000 a % val 10000 b->(vr=.ns\/n.num<=vr.blk.num)->Q (.u [vq,vr]) h' n'):τ C (.f 332 [] []) [va,vb] h n Q:=by
 refine τ.go hC.f332 U ?_;refine θ<|γ U<|γ U<|ε ?_;refine θ<|γ U<|aG U ia<|uX U U (by omega) (by omega) <| λh1 n1 dZ a1 e1=>γ U<|ε ?_;rw[Aj]at a1;refine θ<|γ U<|ε ?_;have OR:=ia.at_ e1;refine ν<|θ<|γ U<|aG U OR<|jg U U ⟨by omega,by omega⟩<|γ U<|ε ?_;refine aK<|ae (agX (h0:=h) (n0:=n) (bq:=n) hC fX gG ha hb eJ ia ib (Γ _) ?_ a.length (List.replicate a.length 0) [] .ns h1 n1 (Γ _) (by simp) ⟨by omega,a1⟩ bj.nil (Or.inl U) eK.nil (by rw[nH];simp[val]) e1) ⟨rfl,rfl,rfl,rfl,rfl,trivial⟩;intro q r vr h2 n2 E2 q1 q2 q7 q3 q4 q5 q6 s2;refine dB s2 ?_;have iq:bj h2 n2 .i64 (.sl n 0 a.length a.length) q:=q2.qL q1;refine θ<|γ U<|kl (Cn rfl rfl rfl)<|al U U<|yO hC (by omega) iq <| λng v3 h3 n3 e3 i3 k3=>Af U U<|γ U<|γ U<|γ U<|ε ?_;refine aj ⟨_,rfl,?_⟩;exact hQ v3 (dE q) vr r h3 n3 (q6.trans e3) (i3.up e3.1) (by rw[←q1];exact AA q) (q3.ext e3) q4 q5 (q7.imp id fZ)
theorem IG{v:V}{x:Bool}(h:cu n v=true):cu n (.a [.b x,v])=true:=by simp[cu,gZ,h]
theorem IH{v:V}{x:Bool}(h:dH v v=true):dH (.a [.b x,v]) (.a [.b x,v])=true:=by simp[dH,lE,h]
theorem ag4(hC:Cd C){va vb:V}{nb:Bool}{a b:List Nat}(fX:a.length<500)(gG:b.length<500)(ha:Sm 10000 a)(hb:eK 10000 b)(eJ:b≠[])(ia:bj h n .i64 va a)(ib:bj h n .i64 vb b)
 (hQ:∀vq vr r ng nr h' n',Ext h n h' n'->vq.one=true->nr=false->bj h' n' .i64 vr r->eK 10000 r->val 10000 r=val 10000 a % val 10000 b->(vr=.ns\/n.num<=vr.blk.num)->Q (.u [.a [.b ng,vq],.a [.b nr,vr]]) h' n'):τ C (.f 303 [] []) [.a [.b false,va],.a [.b nb,vb]] h n Q:=by
 refine τ.go hC.f303 U ?_;have h1:=ia.one;have nu:=ib.one;refine θ<|eL U U (jL rfl h1) <| λh1 n1 dZ a1 e1=>eL U U (jL rfl nu) <| λh2 n2 fB a2 e2=>ea <| λh3 n3 lz a3 e3=>ea <| λh4 n4 nE a4 e4=>ε ?_;have mI:=e1.trans e2;have uq:=(mI.trans e3).trans e4;have c2:Cl h4 n4 n [.b false,va] 310:=((Cl.ext ⟨by omega,a1⟩ e2).ext e3).ext e4;have c3:Cl h4 n4 n1 [.b nb,vb] 310:=(Cl.ext ⟨by omega,a2⟩ e3).ext e4;have c4:Cl h4 n4 n2 [.b false,.ns] 310:=Cl.ext ⟨by omega,a3⟩ e4;have c5:Cl h4 n4 n3 [.b false,.ns] 310:=⟨by omega,a4⟩;refine θ<|Ω U<|χ U (c2.ld U _)<|Ω U<|χ U (c3.ld U _)<|al U U<|ag3 hC fX gG ha hb eJ ((ia.at_ uq).up uq.1) ((ib.at_ uq).up uq.1) <| λvq q vr r h5 n5 e5 i5 l5 F8 r5 v5 u5=>γ U<|dj U U<|dj U U<|γ U<|γ U<|ε ?_;have d2:=c2.ext e5;have d3:=c3.ext e5;have d4:=c4.ext e5;have d5:=c5.ext e5;have ho:=bj.one F8;refine θ<|Ω U<|χ U (d2.ld U _)<|Ω U<|χ U (d3.ld U _)<|Lg U U<|γ U<|kl (Ww rfl rfl rfl rfl i5.cells i5.one)<|al U U<|yO hC (by omega) i5 <| λng v6 h6 n6 e6 i6 k6=>γ U<|kl (Cn rfl F8.cells ho)<|ea <| λh7 n7 wQ a7 e7=>ea <| λh8 n8 mJ a8 e8=>ct U U ((Cl.ext (n:=n7) ⟨by omega,a7⟩ e8).2) (rV (jL rfl i6.one)) <| λh9 a9 b9=>ct U U ((Cl.aA (n:=n8) ⟨by omega,a8⟩ b9 (by omega)).2) (rV (jL rfl ho)) <| λlj A6 kZ=>ε ?_;have ES:Ext h5 n5 lj n8:=(((e6.trans e7).trans e8).aA b9 (by have:=e6.1;omega)).aA kZ (by have:=e6.1;omega);have c8:Cl lj n8 n6 [.b ng,v6] 310:=Cl.aA ⟨by omega,a9⟩ kZ (by omega);have c9:Cl lj n8 n7 [.b false,vr] 310:=⟨by omega,A6⟩;have f2:=d2.ext ES;have f4:=d4.ext ES;have f5:=d5.ext ES;have i10:=(F8.ext ES);have OS:bj lj n6 .i64 v6 _:=(i6.up e6.1).at_ (((((Ext.refl h6 n6).trans e7).trans e8).aA b9 (Γ _)).aA kZ (by omega));have lr:r.length<500:=by
  by_cases hc:val 10000 b=0
  ·exact absurd ((val_zero hb.2 (by omega)).1 hc) eJ
  ·have:=pU (B:=10000) r5.2 hb.1 (by omega) (by rw[v5];exact fZ (mb _ (by omega)));omega
 refine ν<|θ<|Ω U<|χ U (f2.ld U _)<|γ U<|σ U (rfl)<|σ U (rfl)<|σ U (rfl)<|bE U (rfl) U<|ε ?_;refine aE U U<|ao ?_;have l8:cD lj true 2 (.p n6 0)=some (.a [.b ng,v6]):=cz c8.2 rfl;have l9:cD lj true 2 (.p n7 0)=some (.a [.b false,vr]):=cz c9.2 rfl;refine eS<|bc U l8 (IG (ρ.below OS (by omega))) (IH (ρ.dX OS))<|bc U l9 (IG (ρ.below i10 (Γ _))) (IH (ρ.dX i10))<|cJ U U<|yO hC (by omega) i10 <| λnr v11 oX wR zk i11 aH=>gH U U ((f4.ext zk).2) (rV (jL rfl OS.one)) <| λkm JE b12=>gH U U ((Cl.aA (n:=wR) (f5.ext zk) b12 (by omega)).2) (rV (jL rfl i11.one)) <| λsF MP ey=>dQ (⟨⟨ak (by simp[Nat.testBit]),ak (by simp[Nat.testBit]),ak (by simp[Nat.testBit]),trivial⟩,⟨ak (by simp[Nat.testBit]),ak (by simp[Nat.testBit]),dJ l8 (cz (c8.ext zk).2 rfl),trivial⟩,trivial⟩) ?_;have ag6:sF n2=some (.c [.b ng,v6] 310 0):=(ey _ (by omega)).trans JE;refine aj ⟨_,Eg rfl (cz ag6 rfl) U (cz MP rfl),?_⟩;have g12:=mI.1;have MQ:v11=.ns\/n4.num<=v11.blk.num:=u5.imp aH.2.1 λh=>by rw[aH.1];exact h
 have x13:Ext h n sF wR:=((((uq.trans e5).trans ES).trans zk).aA b12 (by omega)).aA ey (by omega);refine hQ v6 v11 (dE r) ng nr sF wR x13 OS.one (aH.2.2 rfl) ?_ (rR r5.1) (by rw[pT];exact v5) (MQ.imp id λh=>by have:=uq.1;omega);have ag7:=i11.up zk.1;exact(ag7.aA b12 (MQ.imp id λh=>by omega)).aA ey (MQ.imp id λh=>by omega)
theorem ag8(hC:Cd C){h0:Hf}{n0 b2 b3 b4:K}(qG:n0.num<=b2.num)(MS:n0.num<=b3.num)(OT:n0.num<=b4.num)(h23:b2.num≠b3.num)(h24:b2.num≠b4.num)(h34:b3.num≠b4.num){G:Nat}
 {Q1:Ex->Env->Hf->K->Prop}(hQ:∀va g h n E',Ext h0 n0 h n->Cl h n b2 [.b false,va] 310->Cl h n b4 [.b false,.ns] 310->bj h n .i64 va g->eK 10000 g->val 10000 g=G->(va=.ns\/va.blk.num≠b4.num)->da [(k2,.p b2 0),(k4,.p b4 0)] E'->Q1 .normal E' h n):
 ∀(m:Nat) (va vb:V) (a b:List Nat) (h:Hf) (n:K),val 10000 b<=m->a.length<500->b.length<500->eK 10000 a->eK 10000 b->Nat.gcd (val 10000 a) (val 10000 b)=G->bj h n .i64 va a->bj h n .i64 vb b->(va=.ns\/va.blk.num≠b2.num/\va.blk.num≠b3.num/\va.blk.num≠b4.num)->(vb=.ns\/vb.blk.num≠b2.num/\vb.blk.num≠b3.num/\vb.blk.num≠b4.num)->Ext h0 n0 h n->Cl h n b2 [.b false,va] 310->Cl h n b3 [.b false,vb] 310->Cl h n b4 [.b false,.ns] 310->WC C TJ [(k2,.p b2 0),(k3,.p b3 0),(k4,.p b4 0)] h n (blk 0 Q1):=by
 intro m
 induction m with
 | zero=>
  intro va vb a b h n hm fX gG ha hb hG ia ib ET C0 he c2 c3 c4;have eJ:b=[]:=(val_zero (B:=10000) hb.2 (by omega)).1 (by omega);subst eJ;refine aQ ?_;refine ν<|θ<|Ω U<|χ U (c3.ld U _)<|aG U ib<|cQ U U<|ε ?_;exact aE U U<|bW (hQ va a h n _ he c2 c4 ia ha (by simpa[val]using hG) (ET.imp id λh=>h.2.2) ⟨rfl,rfl,trivial⟩)
 | succ m ih=>
  intro va vb a b h n hm fX gG ha hb hG ia ib ET C0 he c2 c3 c4;refine aQ ?_;by_cases eJ:b=[]
  ·subst eJ;refine ν<|θ<|Ω U<|χ U (c3.ld U _)<|aG U ib<|cQ U U<|ε ?_;exact aE U U<|bW (hQ va a h n _ he c2 c4 ia ha (by simpa[val]using hG) (ET.imp id λh=>h.2.2) ⟨rfl,rfl,trivial⟩)
  ·refine ν<|θ<|Ω U<|χ U (c3.ld U _)<|aG U ib<|cQ U U<|ε ?_;have iL:0<b.length:=by cases b with | nil=>exact absurd rfl eJ | cons=>simp
   refine aD U (by simp<;>omega)<|ao ?_;have F7:0<val 10000 b:=xy λe=>eJ ((val_zero (B:=10000) hb.2 (by omega)).1 e);refine aK<|θ<|χ U (cz c2.2 rfl)<|χ U (cz c3.2 rfl)<|al U U<|ag4 hC fX gG ha.1 hb eJ ia ib <| λvq vr r ng nr h1 n1 e1 hvq hnr ir hr m7 ur=>γ U<|dj U U<|dj U U<|ea <| λh2 n2 fB a2 e2=>ea <| λh3 n3 lz a3 e3=>ct U U ((Cl.ext (n:=n2) ⟨by omega,a2⟩ e3).2) (rV (jL rfl hvq)) <| λh4 a4 t4=>ct U U ((Cl.aA (n:=n3) ⟨by omega,a3⟩ t4 (by omega)).2) (rV (jL rfl ir.one)) <| λh5 a5 t5=>ε ?_;subst hnr;have g2:=c2.1;have g3:=c3.1;have g4:=c4.1;have lY:Ext h1 n1 h5 n3:=((e2.trans e3).aA t4 (Γ _)).aA t5 (by omega);have d2:=(c2.ext e1).ext lY;have d3:=(c3.ext e1).ext lY;have d4:=(c4.ext e1).ext lY;have l3:cD h5 true 2 (.p b3 0)=some (.a [.b false,vb]):=cz d3.2 rfl;have l6:cD h5 true 2 (.p n2 0)=some (.a [.b false,vr]):=cz a5 rfl;have uo:=(ib.ext e1).ext lY;have F9:=ir.ext lY;have g1:=e1.1;refine wj<|bc U l3 (IG (ρ.below uo (Γ _))) (IH (ρ.dX uo))<|bc U l6 (IG (ρ.below F9 (Γ _))) (IH (ρ.dX F9))<|gH U U d2.2 (rV (jL rfl ib.one)) <| λh6 a6 b6=>gH U U ((d3.aA b6 (by omega)).2) (rV (jL rfl ir.one)) <| λh7 a7 b7=>dQ (⟨⟨ak (by simp[Nat.testBit]),dJ l6 (cz ((b6 _ (by omega)).trans a5) U),trivial⟩,⟨ak (by simp[Nat.testBit]),ak (by simp[Nat.testBit]),trivial⟩,trivial⟩) ?_;have Ga:h7 b2=some (.c [.b false,vb] 310 0):=(b7 _ (by omega)).trans a6;have oB:df b2 h5 h6:=b6;have lZ:df b3 h6 h7:=b7;have Gb:h7 b3=some (.c [.b false,vr] 310 0):=a7;have BI:=mb (val 10000 a) F7;have oP:r.length<500:=by have:=pU (B:=10000) hr.2 hb.1 (by omega) (by rw[m7];exact fZ BI);omega
   have Gc:vr=.ns\/vr.blk.num≠b2.num/\vr.blk.num≠b3.num/\vr.blk.num≠b4.num:=ur.imp id λh=>⟨by omega,by omega,by omega⟩;refine ae (ih vb vr b r h7 n3 (by omega) gG oP hb hr ?_ ((uo.aA oB (C0.imp id λh=>h.1)).aA lZ (C0.imp id λh=>h.2.1)) ((F9.aA oB (Gc.imp id λh=>h.1)).aA lZ (Gc.imp id λh=>h.2.1)) C0 Gc (((he.trans (e1.trans lY)).aA oB qG).aA lZ MS) ⟨d2.1,Ga⟩ ⟨d3.1,Gb⟩ ((d4.aA oB (by omega)).aA lZ (by omega))) ⟨rfl,rfl,rfl,trivial⟩;rw[m7,←hG,Nat.gcd_comm (val 10000 a),Nat.gcd_rec (val 10000 b) (val 10000 a),Nat.gcd_comm]
theorem aha(hC:Cd C){va vb:V}{na nb:Bool}{a b:List Nat}(fX:a.length<500)(gG:b.length<500)(ha:eK 10000 a)(hb:eK 10000 b)(ia:bj h n .i64 va a)(ib:bj h n .i64 vb b)
 (hQ:∀vg g h' n',Ext h n h' n'->bj h' n' .i64 vg g->eK 10000 g->val 10000 g=Nat.gcd (val 10000 a) (val 10000 b)->Q (.a [.b false,vg]) h' n'):τ C (.f 259 [] []) [.a [.b na,va],.a [.b nb,vb]] h n Q:=by
 refine τ.go hC.f259 U ?_;have h1:=ia.one;have nu:=ib.one;refine θ<|eL U U (jL rfl h1) <| λh1 n1 dZ a1 e1=>eL U U (jL rfl nu) <| λh2 n2 fB a2 e2=>ea <| λh3 n3 lz a3 e3=>ε ?_;have kL:=(e1.trans e2).trans e3;have c2:Cl h3 n3 n [.b na,va] 310:=(Cl.ext ⟨by omega,a1⟩ e2).ext e3;have c3:Cl h3 n3 n1 [.b nb,vb] 310:=Cl.ext ⟨by omega,a2⟩ e3;have c4:Cl h3 n3 n2 [.b false,.ns] 310:=⟨by omega,a3⟩;refine θ<|Ω U<|ct U U c2.2 (IE rfl rfl) <| λh4 a4 b4=>Ω U<|ct U U ((c3.aA b4 (by omega)).2) (IE rfl rfl) <| λh5 a5 b5=>ε ?_;have lY:Ext h n h5 n3:=(kL.aA b4 (Γ _)).aA b5 (by omega);have k2:Cl h5 n3 n [.b false,va] 310:=Cl.aA ⟨c2.1,a4⟩ b5 (by omega);have k3:Cl h5 n3 n1 [.b false,vb] 310:=⟨c3.1,a5⟩;have k4:=(c4.aA b4 (by omega)).aA b5 (by omega);refine ν<|aK<|ae (ag8 hC (h0:=h) (n0:=n) (b2:=n) (b3:=n1) (b4:=n2) (Γ _) (by omega) (by omega) (by omega) (by omega) (by omega) ?_ _ va vb a b h5 n3 (Γ _) fX gG ha hb rfl ((ia.at_ lY).up lY.1) ((ib.at_ lY).up lY.1) ((ia.xT).imp id λh=>⟨by omega,by omega,by omega⟩) ((ib.xT).imp id λh=>⟨by omega,by omega,by omega⟩) lY k2 k3 k4) ⟨rfl,rfl,rfl,trivial⟩;intro vg g h6 n6 E6 x6 d2 d4 i6 r6 v6 u6 s6;refine dB s6 ?_;refine θ<|χ U (cz d2.2 rfl)<|ct U U d4.2 (rV (jL rfl i6.one)) <| λh7 a7 b7=>ε ?_;refine aj ⟨_,kP rfl (cz a7 rfl),?_⟩;exact hQ vg g h7 n6 (x6.aA b7 (by omega)) (i6.aA b7 u6) r6 v6
end
section
variable {C:Nat->Option bP}{h:Hf}{n:K}{Q:V->Hf->K->Prop}
theorem AB{c:UInt8}(h:hX c=true):48<=c.toNat/\c.toNat<=57:=by simpa only[hX,bG,bT]using h
theorem ahb{b:S}{lo e:Nat}(h1:lo<=e)(h2:e<=b.length):dec (b.take e)=dec (b.take lo)*10 ^ (e - lo)+dec ((b.drop lo).take (e - lo)):=by
 have:b.take e=b.take lo++(b.drop lo).take (e - lo):=by rw[←Bk lo (b.take e),List.take_take,xD h1,List.drop_take]
 rw[this,Iy];congr 3;simp;omega
theorem ahc{b:S}{lo i:Nat}(h1:lo<=i)(h2:i<b.length):(b.drop lo).take (i+1 - lo)=(b.drop lo).take (i - lo)++[b[i]]:=by
 have e:i+1 - lo=(i - lo)+1:=by omega
 rw[e,iy (by simp;omega)];congr 2;rw[List.getElem_drop];congr 1;omega
theorem MT{k:Nat}(h:k<=4):10 ^ k<=10000:=by have:10 ^ k<=10 ^ 4:=zu (by omega) h;simpa using this
theorem gp.one{h:Hf}{e z len:Nat}{v:V}{cs:List V}(a:gp h e z v len cs):v.one=true:=by
 rcases a.2 with h | ⟨_,b,h,_⟩
 ·rw[h.1];rfl
 ·rw[h];rfl
theorem gp.cells{h:Hf}{e z len:Nat}{v:V}{cs:List V}(a:gp h e z v len cs):v.cells=[v]:=by
 rcases a.2 with h | ⟨_,b,h,_⟩
 ·rw[h.1];rfl
 ·rw[h];rfl
section
variable {b:S}{x2 x3:V}
theorem ahd{lo e:Nat}(hb:b.length<1000)(hd:∀c∈b,hX c=true)(h1:lo<=e)(h2:e<=b.length)(h4:e - lo<=4){Q1:Ex->Env->Hf->K->Prop}
 (hQ:∀E',da [(k0,st b),(k2,x2),(k3,x3),(k4,.i .i64 (e:Nat)),(k5,.i .i64 (dec ((b.drop lo).take (e - lo)):Nat))] E'->Q1 .normal E' h n):
 ∀(m i:Nat),e - i=m->lo<=i->i<=e->WC C TA [(k0,st b),(k2,x2),(k3,x3),(k4,.i .i64 (e:Nat)),(k5,.i .i64 (dec ((b.drop lo).take (i - lo)):Nat)),(k6,.i .i64 (i:Nat))] h n (blk 2 Q1):=by
 intro m
 induction m with
 | zero=>
  intro i hm hl hi;have:i=e:=by omega
  subst this;refine aQ ?_;refine ν<|θ<|γ U<|γ U<|aP U U<|ε ?_;exact aE U (by simp)<|bW (hQ _ ⟨rfl,rfl,rfl,rfl,rfl,trivial⟩)
 | succ m ih=>
  intro i hm hl hi;have ψ:i<b.length:=by omega
  have si:=AB (hd b[i] (dU _));have hs:=ahc hl ψ;have MU:dec ((b.drop lo).take (i+1 - lo))=10*dec ((b.drop lo).take (i - lo))+(b[i].toNat - 48):=by rw[hs];exact We 0 _ _
  have MV:dec ((b.drop lo).take (i - lo))<10 ^ (i - lo):=by
   have:=dec_lt (s:=(b.drop lo).take (i - lo)) (λc hc=>hd c (Bm (uE hc)));have oz:((b.drop lo).take (i - lo)).length=i - lo:=by simp;omega
   rw[oz]at this;exact this
  have hp:=MT (k:=i - lo) (by omega);refine aQ ?_;refine ν<|θ<|γ U<|γ U<|aP U U<|ε ?_;refine aD U (by simp<;>omega)<|ao ?_;generalize hD:dec ((b.drop lo).take (i - lo))=D at*;refine ν<|aK<|aR<|γ U<|Lo U U (show(10:Int)*(D:Nat)=((10*D:Nat):Int) by omega) ⟨by omega,by omega⟩<|γ U<|γ U<|mq U U ψ<|kQ U U (show((b[i].toNat:Nat):Int) - 48=((b[i].toNat - 48:Nat):Int) by omega) ⟨by omega,by omega⟩<|pR U ⟨by omega,by omega⟩<|kp U U (show((10*D:Nat):Int)+((b[i].toNat - 48:Nat):Int)=((10*D+(b[i].toNat - 48):Nat):Int) by omega) ⟨by omega,by omega⟩<|γ U<|ε ?_;rw[←MU];refine aR<|γ U<|cK U U ⟨by omega,by omega⟩<|γ U<|ε ?_;exact ae (ih (i+1) (by omega) (by omega) (by omega)) ⟨rfl,rfl,rfl,rfl,rfl,rfl,trivial⟩
theorem ahe(hC:Cd C){h0:Hf}{n0 b3:K}{neg:Bool}(zd:n0.num<=b3.num)(hb:b.length<1000)(hd:∀c∈b,hX c=true){Q1:Ex->Env->Hf->K->Prop}
 (hQ:∀l vm h n E',l.length<=b.length->Sm 10000 l->val 10000 l=dec b->Cl h n b3 [.b neg,vm] 310->Ext h0 n0 h n->bj h n .i64 vm l->(vm=.ns\/b3.num<vm.blk.num)->da [(k2,x2),(k3,.p b3 0)] E'->Q1 .normal E' h n):
 ∀(m:Nat) (x:Int) (l:List Nat) (vm:V) (h:Hf) (n:K),x.toNat<=m->x<=b.length->l.length+x.toNat<=b.length->Sm 10000 l->dec b=dec (b.take x.toNat)*10000 ^ l.length+val 10000 l->Cl h n b3 [.b neg,vm] 310->Ext h0 n0 h n->gp h 3 1 vm l.length (nC .i64 l)->(vm=.ns\/b3.num<vm.blk.num/\vm.blk.num<n.num) -> -4<=x->WC C TB [(k0,st b),(k2,x2),(k3,.p b3 0),(k4,.i .i64 x)] h n (blk 0 Q1):=by
 intro m
 induction m with
 | zero=>
  intro x l vm h n hm hx hl hs hv hc he ho wS AD;have Gd:x.toNat=0:=by omega
  refine aQ ?_;refine ν<|θ<|γ U<|cQ U U<|ε ?_;refine aE U (by simp<;>omega)<|bW (hQ l vm h n _ (by omega) hs ?_ hc he (ho.sl (wS.imp id And.right)) (wS.imp id And.left) ⟨rfl,rfl,trivial⟩);rw[hv,Gd];simp[dec,pb]
 | succ m ih=>
  intro x l vm h n hm hx hl hs hv hc he ho wS AD;refine aQ ?_;by_cases Gd:x<=0
  ·refine ν<|θ<|γ U<|cQ U U<|ε ?_;refine aE U (by simp<;>omega)<|bW (hQ l vm h n _ (by omega) hs ?_ hc he (ho.sl (wS.imp id And.right)) (wS.imp id And.left) ⟨rfl,rfl,trivial⟩);rw[hv,show x.toNat=0 by omega];simp[dec,pb]
  ·obtain⟨e,rfl⟩:∃e:Nat,x=(e:Int):=⟨x.toNat,by omega⟩;simp only[Int.toNat_natCast]at*;refine ν<|θ<|γ U<|cQ U U<|ε ?_;refine aD U (by simp<;>omega)<|ao ?_;refine ν<|aK<|θ<|γ U<|ε ?_;refine ν<|θ<|γ U<|jg U U ⟨by omega,by omega⟩<|Li U U<|γ U<|ε ?_;obtain⟨lo,fV⟩:∃lo:Nat,lo=e - 4:=⟨_,rfl⟩;have e1:max (0:Int) ((e:Int) - 4)=(lo:Nat):=by omega
   rw[e1];refine aK<|ae (ahd (x2:=x2) (x3:=.p b3 0) (lo:=lo) (e:=e) hb hd (by omega) (by omega) (by omega) ?_ _ lo rfl (Γ _) (by omega)) ⟨rfl,rfl,rfl,rfl,by rw[qp,List.take_zero];rfl,rfl,trivial⟩;intro E1 s1;refine dB s1 ?_;have uv:=ahb (b:=b) (lo:=lo) (e:=e) (by omega) (by omega);have MV:dec ((b.drop lo).take (e - lo))<10000:=by
    have:=dec_lt (s:=(b.drop lo).take (e - lo)) (λc hc=>hd c (Bm (uE hc)));have oz:((b.drop lo).take (e - lo)).length=e - lo:=by simp;omega
    rw[oz]at this;have:=MT (k:=e - lo) (by omega);omega
   generalize hD:dec ((b.drop lo).take (e - lo))=D at*;have h3n:=hc.1;refine aR<|Ω U<|χ U (hc.ld U _)<|γ U<|fx U <| λh1 n1 dZ a1 e1=>jK U (ho.ext (wS.imp id λh=>e1.2 _ h.2)) U (ρ.whole (len:=1) (by omega) a1 rfl) (by omega) (by omega) (by omega) (by omega) U ((wS.imp id λh=>by omega)) <| λv2 h2 n2 um fM fB mV=>Ω U<|ct U U ((mV _ (by omega) (wS.imp id λh=>by omega)).trans (e1.2 _ h3n |>.trans hc.2)) (Wz rfl um.cells um.one) <| λh3 a3 wT=>ε ?_;have EU:df b3 h2 h3:=wT;have MW:h3 b3=some (.c [.b neg,v2] 310 0):=a3;have e2:nC .i64 l++[V.i .i64 (D:Nat)]=nC .i64 (l++[D]):=by rw[Ln];rfl
   rw[e2]at um;have ho3:gp h3 3 1 v2 (l++[D]).length (nC .i64 (l++[D])):=by rw[gX];exact um.ext (Or.inr (EU _ (by rw[fM];omega)))
   have mK:Ext h0 n0 h3 n2:=by refine⟨by have:=he.1;omega,λk hk=>?_⟩;have:=he.1;rw[EU _ (by omega),mV k (by omega) (wS.imp id λh=>by omega),e1.2 _ (by omega),he.2 _ hk]
   refine aR<|γ U<|jg U U ⟨by omega,by omega⟩<|γ U<|ε ?_;refine ae (ih ((e:Int) - 4) (l++[D]) v2 h3 n2 (by omega) (by omega) (by simp;omega) ?_ ?_ ⟨by omega,MW⟩ mK ho3 (Or.inr ⟨by rw[fM];omega,by rw[fM];omega⟩) (by omega)) ⟨rfl,rfl,rfl,rfl,trivial⟩
   ·intro y hy;rcases kc.1 hy with hy | hy
    ·exact hs y hy
    ·simp at hy;rw[hy];exact MV
   ·have e5:((e:Int) - 4).toNat=lo:=by omega
    rw[e5,hv,uv,yM];simp only[val,kM,j8,gX,List.length_singleton];rw[iO,gW,dY D];have:dec (b.take lo)*10 ^ (e - lo)*10000 ^ l.length=dec (b.take lo)*(10000 ^ l.length*10000):=by
     by_cases h4:4<=e
     ·rw[show e - lo=4 by omega,iX];congr 1;rw[dY]
     ·rw[show lo=0 by omega];simp[dec,pb]
    omega
end
theorem WJ(hC:Cd C){s:S}(hlen:s.length<1000)(hf:js s=true)
 (hQ:∀ng v l h' n',Ext h n h' n'->bj h' n' .i64 v l->eK 10000 l->l.length<=s.length->val 10000 l=dec (body s)->Q (.a [.b ng,v]) h' n'):τ C (.f 260 [] []) [st s] h n Q:=by
 obtain⟨jo,bC⟩:=EI hf;have iL:=EJ s;refine τ.go hC.f260 U ?_;refine θ<|ea <| λh1 n1 dZ a1 e1=>ε ?_;refine θ<|ea <| λh2 n2 fB a2 e2=>ε ?_;have c2:Cl h2 n2 n [.b false,.ns] 310:=Cl.ext ⟨by omega,a1⟩ e2;have c3:Cl h2 n2 n1 [.b false,.ns] 310:=⟨by omega,a2⟩;have mI:=e1.trans e2;have rest:∀neg h3,df n1 h2 h3->Cl h3 n2 n1 [.b neg,.ns] 310->WC C TC [(k0,st (body s)),(k2,.p n 0),(k3,.p n1 0)] h3 n2 (fq [.cell k2 true 2] Q):=by
  intro neg h3 b3 c3;have e3:Ext h n h3 n2:=mI.aA b3 (by omega);have c2':=c2.aA b3 (by omega);refine ν<|θ<|γ U<|cW U<|γ U<|ε ?_;refine aK<|ae (ahe hC (h0:=h3) (n0:=n1) (b3:=n1) (neg:=neg) (x2:=.p n 0) (Γ _) (by omega) jo ?_ _ ((body s).length:Int) [] .ns h3 n2 (Γ _) (by omega) (by simp) Sm.nil ?_ c3 ⟨by omega,λ_ _=>rfl⟩ (gp.ns h3 3 1) (Or.inl U) (by omega)) ⟨rfl,rfl,rfl,rfl,trivial⟩
  ·intro l vm h4 n4 E4 l1 l2 l3 l4 l5 l6 l7 s4;refine dB s4 ?_;have l51:=l5.1;have x4:Ext h n h4 n4:=⟨by omega,λk hk=>by rw[l5.2 k (by omega),e3.2 k hk]⟩;have d2:Cl h4 n4 n [.b false,.ns] 310:=⟨by omega,by rw[l5.2 n (by omega)];exact c2'.2⟩;refine θ<|χ U (cz l4.2 rfl)<|al U U<|yO hC (by omega) l6 <| λng v5 h5 n5 e5 i5 k5=>ct U U ((d2.ext e5).2) (rV (jL rfl i5.one)) <| λh6 a6 b6=>ε ?_;refine aj ⟨_,kP rfl (cz a6 rfl),?_⟩;refine hQ ng v5 (dE l) h6 n5 ((x4.trans e5).aA b6 (Γ _)) ((i5.up e5.1).aA b6 (l7.imp k5.2.1 λh=>?_)) (rR l2) (by have:=AA l;omega) (by rw[pT];exact l3);rw[k5.1];omega
  ·rw[Int.toNat_natCast,fO];simp[val]
 cases s with
 | nil=>exact absurd rfl (My hf)
 | cons c l=>
  refine ν<|θ<|γ U<|mq U U (by simp)<|bQ U U<|ε ?_;refine di U (λhx=>?_) (λhx=>ao ?_)
  ·simp only[sH,bT]at hx;have hb:body (c::l)=l:=by simp only[body];rw[az (by omega)]
   refine θ<|Ω U<|ct U U c3.2 (IE rfl rfl) <| λh3 a3 b3=>ε ?_;refine aR<|γ U<|Ae U U U (by simp) (by omega)<|γ U<|ε ?_;rw[hb]at rest;exact ae (rest true h3 b3 ⟨c3.1,a3⟩) ⟨by show some (st (List.take _ (List.drop 1 (c::l))))=_;simp,rfl,rfl,trivial⟩
  ·simp only[sH,dn]at hx;have hb:body (c::l)=c::l:=by simp only[body];rw[ai (by omega)]
   rw[hb]at rest;exact ae (rest false h2 (λ_ _=>rfl) c3) ⟨rfl,rfl,rfl,trivial⟩
end
section
variable {C:Nat->Option bP}{h:Hf}{n:K}{Q:V->Hf->K->Prop}
def dv(s:S):List Nat:=s.map λc=>c.toNat - 48
theorem WK(a b:S):dv (a++b)=dv a++dv b:=by simp[dv]
theorem WL(a:S):(dv a).length=a.length:=by simp[dv]
def EV(x:Nat):UInt8:=UInt8.ofNat (48+x % 10)
theorem WM(x:Nat):(EV x).toNat=48+x % 10:=by unfold EV;rw[UInt8.toNat_ofNat'];omega
theorem ahf(x:Nat):hX (EV x)=true:=by simp only[hX,WM,bG,bT];omega
section
variable {x1:V}{h0:Hf}{n0:K}
theorem ahg{i4:V}{V0 P x:Nat}{L:Nat}{Q1:Ex->Env->Hf->K->Prop}
 (hQ:∀ds vd h n E',ds.length=L+4->L+4<=10000->(∀c∈ds,hX c=true)->val 10 (dv ds)=V0+10 ^ L*x->Gr h0 n0 h n 5 1 vd ds.length (uC ds)->da [(k1,x1),(k3,vd),(k4,i4)] E'->Q1 .normal E' h n):
 ∀(j k:Nat) (y:Nat) (ds:S) (vd:V) (h:Hf) (n:K),k+j=4->y<10 ^ j->ds.length=L+k->L+4<=10000->(∀c∈ds,hX c=true)->val 10 (dv ds)+10 ^ (L+k)*y=V0+10 ^ L*x->Gr h0 n0 h n 5 1 vd ds.length (uC ds)->WC C TW [(k1,x1),(k3,vd),(k4,i4),(k5,.i .i64 (y:Nat)),(k6,.i .i64 (k:Nat))] h n (blk 2 Q1):=by
 intro j
 induction j with
 | zero=>
  intro k y ds vd h n hk hy hl hL hd hv hg;have:k=4:=by omega
  subst this;have Y2:y=0:=by simp at hy;exact hy
  subst Y2;refine aQ ?_;refine ν<|θ<|γ U<|aP U U<|ε ?_;exact aE U (by simp)<|bW (hQ ds vd h n _ hl hL hd (by simpa using hv) hg ⟨rfl,rfl,rfl,trivial⟩)
 | succ j ih=>
  intro k y ds vd h n hk hy hl hL hd hv hg;refine aQ ?_;refine ν<|θ<|γ U<|aP U U<|ε ?_;refine aD U (by simp<;>omega)<|ao ?_;have Oq:y<10000:=by have:=MT (k:=j+1) (by omega);omega
  have hdg:=WM y;refine ν<|aK<|θ<|γ U<|γ U<|HU (b:=10) U U (show 0<10 by decide)<|kp U U (show(48:Int)+((y % 10:Nat):Int)=((EV y).toNat:Nat) by omega) ⟨by omega,by omega⟩<|pR U ⟨by omega,by omega⟩<|fx U <| λh1 n1 dZ a1 e1=>jK U ((hg.on e1).own) U (ρ.whole (len:=1) (by omega) a1 rfl) (by omega) (by omega) (by omega) (by omega) U ((hg.on e1).lt) <| λv2 h2 n2 um fM fB mV=>γ U<|ε ?_;have g2:=(hg.on e1).app um fM fB mV;have e2:uC ds++[V.i .u8 ((EV y).toNat:Nat)]=uC (ds++[EV y]):=by rw[RV];rfl
  rw[e2]at g2;refine aR<|γ U<|Ej (b:=10) U U (show 0<10 by decide) ⟨by omega,by omega⟩<|γ U<|ε ?_;refine aR<|γ U<|cK U U ⟨by omega,by omega⟩<|γ U<|ε ?_;refine ae (ih (k+1) (y / 10) (ds++[EV y]) v2 h2 n2 (by omega) ?_ (by simp[hl];omega) hL ?_ ?_ (by rw[gX];exact g2)) ⟨rfl,rfl,rfl,rfl,rfl,trivial⟩
  ·rw[Bj (by omega)];rw[gW]at hy;exact hy
  ·intro c hc;rcases kc.1 hc with hc | hc
   ·exact hd c hc
   ·simp at hc;rw[hc];exact ahf y
  ·rw[WK,yM,WL,hl,←hv];have e3:dv [EV y]=[y % 10]:=by simp[dv,hdg]
   rw[e3];simp only[val,kM,j8];have dm:=xB y 10;have e4:10 ^ (L+(k+1))*(y / 10)=10 ^ (L+k)*(10*(y / 10)):=by rw[←mM,gW,iX]
   rw[e4,mM,←gB];congr 2;omega
theorem ahh{b1:K}{neg:Bool}{va:V}{a:List Nat}(fX:a.length<1000)(ha:Sm 10000 a)(c1:Cl h0 n0 b1 [.b neg,va] 310)(ia:bj h0 n0 .i64 va a){Q1:Ex->Env->Hf->K->Prop}
 (hQ:∀ds vd h n E',ds.length=4*a.length->(∀c∈ds,hX c=true)->val 10 (dv ds)=val 10000 a->Gr h0 n0 h n 5 1 vd ds.length (uC ds)->da [(k1,.p b1 0),(k3,vd)] E'->Q1 .normal E' h n):
 ∀(m i:Nat) (ds:S) (vd:V) (h:Hf) (n:K),a.length - i=m->i<=a.length->ds.length=4*i->(∀c∈ds,hX c=true)->val 10 (dv ds)=val 10000 (a.take i)->Gr h0 n0 h n 5 1 vd ds.length (uC ds)->WC C TX [(k1,.p b1 0),(k3,vd),(k4,.i .i64 (i:Nat))] h n (blk 0 Q1):=by
 intro m
 induction m with
 | zero=>
  intro i ds vd h n hm hi hl hd hv hg;have:i=a.length:=by omega
  subst this;rw[fO]at hv;have pf:=ia.at_ hg.ext;have OU:=c1.ext hg.ext;refine aQ ?_;refine ν<|θ<|γ U<|Ω U<|χ U (OU.ld U _)<|aG U pf<|aP U U<|ε ?_;exact aE U (by simp)<|bW (hQ ds vd h n _ hl hd hv hg ⟨rfl,rfl,trivial⟩)
 | succ m ih=>
  intro i ds vd h n hm hi hl hd hv hg;have ψ:i<a.length:=by omega
  have pf:=ia.at_ hg.ext;have OU:=c1.ext hg.ext;have ga:=pf.get ψ 1;refine aQ ?_;refine ν<|θ<|γ U<|Ω U<|χ U (OU.ld U _)<|aG U pf<|aP U U<|ε ?_;refine aD U (by simp<;>omega)<|ao ?_;refine ν<|aK<|θ<|Ω U<|χ U (OU.ld U _)<|γ U<|bh U U pf ψ<|χ U ga<|γ U<|ε ?_;refine θ<|γ U<|ε ?_;have p1:val 10 (dv ds)+10 ^ (4*i+0)*a[i]=val 10 (dv ds)+10 ^ (4*i)*a[i]:=by rw[j8]
  refine aK<|ae (ahg (P:=0) (V0:=val 10 (dv ds)) (x:=a[i]) (L:=4*i) ?_ 4 0 a[i] ds vd h n rfl (ha.get ψ) hl (by omega) hd p1 hg) ⟨rfl,rfl,rfl,rfl,rfl,trivial⟩;intro Jt vd1 h1 n1 E1 q1 q2 q3 q4 q5 s1;refine dB s1 ?_;refine aR<|γ U<|cK U U ⟨by omega,by omega⟩<|γ U<|ε ?_;refine ae (ih (i+1) Jt vd1 h1 n1 (by omega) (by omega) (by omega) q3 ?_ q5) ⟨rfl,rfl,rfl,trivial⟩;rw[q4,hv,vi,jt ψ];congr 2;rw[Nat.pow_mul]
theorem ahi{vd:V}{ds:S}(hl:ds.length<100000)(hd:∀c∈ds,hX c=true)(iv:ρ h n 1 vd ds.length (uC ds)){Q1:Ex->Env->Hf->K->Prop}(hp:0<val 10 (dv ds))
 (hQ:∀m E',m<=ds.length->Nz (dv (ds.take m))->val 10 (dv (ds.take m))=val 10 (dv ds)->da [(k1,x1),(k3,vd),(k7,.i .i64 (m:Nat))] E'->Q1 .normal E' h n):
 ∀m,m<=ds.length->val 10 (dv (ds.take m))=val 10 (dv ds)->WC C TY [(k1,x1),(k3,vd),(k7,.i .i64 (m:Nat))] h n (blk 4 Q1):=by
 intro m
 induction m with
 | zero=>intro _ hv;rw[←hv]at hp;simp[dv,val]at hp
 | succ m ih=>
  intro hm hv;have ψ:m<ds.length:=by omega
  have e:((m+1:Nat):Int) - 1=(m:Nat):=by omega
  have hg:cD h false 1 (.p vd.blk (vd.off+m*1))=some (.i .u8 (ds[m].toNat:Nat)):=by rw[ka];exact iv.get (RU ψ) 1
  have hdm:=AB (hd ds[m] (dU _));have ht:dv (ds.take (m+1))=dv (ds.take m)++[ds[m].toNat - 48]:=by rw[iy ψ,WK];rfl
  refine aQ ?_;refine ν<|θ<|γ U<|γ U<|kQ U U e ⟨by omega,by omega⟩<|bh U U iv ψ<|χ U hg<|bQ U U<|ε ?_;refine di U (λhx=>?_) (λhx=>?_)
  ·simp only[bT]at hx;refine ao ?_;refine aK<|aR<|γ U<|kQ U U e ⟨by omega,by omega⟩<|γ U<|ε ?_;refine ae (ih (by omega) ?_) ⟨rfl,rfl,rfl,trivial⟩;rw[←hv,ht,yM];have:ds[m].toNat - 48=0:=by omega
   simp[this,val]
  ·simp only[dn]at hx;refine bW (hQ (m+1) _ hm ?_ hv ⟨rfl,rfl,rfl,trivial⟩);intro bC;have e2:(dv (ds.take (m+1))).getLast bC=ds[m].toNat - 48:=by simp[ht]
   rw[e2];omega
theorem ahj{vd:V}{ds:S}(hl:ds.length<100000)(iv:ρ h0 n0 1 vd ds.length (uC ds)){Q1:Ex->Env->Hf->K->Prop}{m0:Nat}(qz:m0<=ds.length)
 (hQ:∀vo h n E',Gr h0 n0 h n 5 1 vo ((ds.take m0).reverse).length (uC (ds.take m0).reverse)->da [(k8,vo)] E'->Q1 .normal E' h n):
 ∀(j:Nat) (out:S) (vo:V) (h:Hf) (n:K),j<=m0->out=((ds.take m0).drop j).reverse->Gr h0 n0 h n 5 1 vo out.length (uC out)->WC C TZ [(k3,vd),(k8,vo),(k9,.i .i64 ((j:Int) - 1))] h n (blk 6 Q1):=by
 intro j
 induction j with
 | zero=>
  intro out vo h n hj ho hg;refine aQ ?_;refine ν<|θ<|γ U<|fU U U<|ε ?_;rw[jS]at ho;subst ho;exact aE U (by simp<;>omega)<|bW (hQ vo h n _ hg ⟨rfl,trivial⟩)
 | succ j ih=>
  intro out vo h n hj ho hg;have ψ:j<ds.length:=by omega
  have e:((j+1:Nat):Int) - 1=(j:Nat):=by omega
  rw[e];have iv':=iv.at_ hg.ext;have zj:cD h false 1 (.p vd.blk (vd.off+j*1))=some (.i .u8 (ds[j].toNat:Nat)):=by rw[ka];exact iv'.get (RU ψ) 1
  have zO:out.length<100000:=by rw[ho];simp;omega
  refine aQ ?_;refine ν<|θ<|γ U<|fU U U<|ε ?_;refine aD U (by simp<;>omega)<|ao ?_;refine ν<|aK<|aR<|γ U<|γ U<|γ U<|bh U U iv' ψ<|χ U zj<|fx U <| λh1 n1 dZ a1 e1=>jK U ((hg.on e1).own) U (ρ.whole (len:=1) (by omega) a1 rfl) (by omega) (by omega) (by omega) (by omega) U ((hg.on e1).lt) <| λv2 h2 n2 um fM fB mV=>γ U<|ε ?_;have g2:=(hg.on e1).app um fM fB mV;have e2:uC out++[V.i .u8 (ds[j].toNat:Nat)]=uC (out++[ds[j]]):=by rw[RV];rfl
  rw[e2]at g2;refine aR<|γ U<|jg U U ⟨by omega,by omega⟩<|γ U<|ε ?_;refine ae (ih (out++[ds[j]]) v2 h2 n2 (by omega) ?_ (by rw[gX];exact g2)) ⟨rfl,rfl,rfl,trivial⟩;have qA:j<(ds.take m0).length:=by simp;omega
  rw[gi qA,List.reverse_cons,ho];congr 2;simp
end
theorem ahl(hC:Cd C){va:V}{a:List Nat}(fX:a.length<1000)(ha:eK 10000 a)(ia:bj h n .i64 va a)(hQ:∀w h' n',Ext h n h' n'->(w=[49]↔val 10000 a=1)->Q (st w) h' n'):τ C (.f 258 [] []) [.a [.b false,va]] h n Q:=by
 refine τ.go hC.f258 U ?_;have ho:=ia.one;refine θ<|eL U U (jL rfl ho) <| λh1 n1 dZ a1 e1=>γ U<|ε ?_;have c1:Cl h1 n1 n [.b false,va] 310:=⟨by omega,a1⟩;have OR:=(ia.at_ e1).up e1.1;refine ν<|θ<|Ω U<|χ U (c1.ld U _)<|aG U OR<|bQ U U<|ε ?_;by_cases h0:a=[]
 ·subst h0;refine aD U U ?_;refine θ<|γ U<|ε ?_;exact aj ⟨_,rfl,hQ [48] _ _ e1 (by simp[val])⟩
 ·have JF:0<a.length:=by cases a with | nil=>exact absurd rfl h0 | cons=>simp
  have mR:0<val 10000 a:=xy λe=>h0 ((val_zero (B:=10000) ha.2 (by omega)).1 e);refine aE U (by simp<;>omega)<|ao ?_;refine θ<|γ U<|ε ?_;refine ν<|θ<|γ U<|ε ?_;refine aK<|ae (ahh (h0:=h1) (n0:=n1) fX ha.1 c1 OR ?_ _ 0 [] .ns h1 n1 rfl (by omega) U (by simp) (by simp[dv,val]) (Gr.ns (Ext.refl h1 n1))) ⟨rfl,rfl,rfl,trivial⟩;intro ds vd h2 n2 E2 q1 q2 q3 q4 s2;refine dB s2 ?_;have iv:=q4.sl;refine θ<|γ U<|aG U iv<|γ U<|ε ?_;refine ν<|aK<|ae (ahi (x1:=.p n 0) (by omega) q2 iv (by omega) ?_ _ (Γ _) (by rw[fO])) ⟨rfl,rfl,rfl,trivial⟩;intro m E3 m1 m2 m3 s3;refine dB s3 ?_;have c2:=c1.ext q4.ext;refine θ<|γ U<|ε ?_;refine ν<|θ<|Ω U<|χ U (c2.ld U _)<|ε ?_;refine aE U U<|ao ?_;refine ν<|θ<|γ U<|jg U U ⟨by omega,by omega⟩<|γ U<|ε ?_;refine aK<|ae (ahj (h0:=h2) (n0:=n2) (by omega) iv m1 ?_ m [] .ns h2 n2 (Γ _) (by rw[ql (by simp;omega)];rfl) (Gr.ns (Ext.refl h2 n2))) ⟨rfl,rfl,rfl,trivial⟩;intro vo h4 n4 E4 g4 s4;refine dB s4 ?_;refine θ<|γ U<|adx U g4.sl<|γ U<|ε ?_;refine aj ⟨_,rfl,hQ _ h4 n4 ((e1.trans q4.ext).trans g4.ext) ?_⟩;have hsm:Sm 10 (dv (ds.take m)):=by intro x hx;simp only[dv,List.mem_map]at hx;obtain⟨c,hc,rfl⟩:=hx;have:=AB (q2 c (uE hc));omega
  rw[←q3,←m3];constructor
  ·intro hw;have:ds.take m=[49]:=by rw[←List.reverse_reverse (ds.take m),hw];rfl
   rw[this];decide
  ·intro hv;have h1:dv (ds.take m)=[1]:=val_inj (B:=10) ⟨hsm,m2⟩ ⟨by intro x hx;simp at hx;omega,λ_=>by simp⟩ (by omega) (by rw[hv];decide);have hlen:(ds.take m).length=1:=by rw[←WL,h1];rfl
   match uv:ds.take m,hlen with
   | [c],_=>
    rw[uv]at h1;simp only[dv,ma,List.map_nil,List.cons.injEq,and_true]at h1;have hc:c∈ds:=uE (by rw[uv];simp);have:=AB (q2 c hc);have:c.toNat=49:=by omega
    rw[show c=49 from UInt8.toNat_inj.1 this];rfl
end
section
variable {C:Nat->Option bP}{h:Hf}{n:K}{Q:V->Hf->K->Prop}
theorem II{s:S}(h:gK s=0):s.length<=121:=by have:=(Ce h).2;have:=EJ s;omega
theorem ahm{s:S}(h:0<s.length):isNeg s=decide (s[0].toNat=45):=by
 cases s with
 | nil=>simp at h
 | cons c l=>rfl
theorem AE(a b:Int):eD [a,b]=if a≠0 then a else b:=by simp only[eD];by_cases h:a=0<;>simp[h];by_cases h2:b=0<;>simp[h2]
theorem MX(a b c:Int):eD [a,b,c]=if a≠0 then a else if b≠0 then b else c:=by simp only[eD];by_cases h:a=0<;>by_cases h2:b=0<;>by_cases h3:c=0<;>simp[h,h2,h3]
theorem WN(a b c d:Int):eD [a,b,c,d]=if a≠0 then a else if b≠0 then b else if c≠0 then c else d:=by simp only[eD];by_cases h:a=0<;>by_cases h2:b=0<;>by_cases h3:c=0<;>by_cases h4:d=0<;>simp[h,h2,h3,h4]
theorem WQ(hC:Cd C){s:S}(hlen:s.length<1000000)(hQ:∀h' n',Ext h n h' n'->Q (.i .i64 (nV s)) h' n'):τ C (.f 194 [] []) [st s] h n Q:=by
 refine τ.go hC.f194 U ?_;refine θ<|γ U<|ε ?_;cases hs:lL s with
 | none=>
  have hv:=ML hs;have key:∀{Q:V->Hf->K->Prop},Q (.u [st [],st [],.b false]) h n->τ C (.f 257 [] []) [st s] h n Q:=λhQ=>Wu hC hlen (by rw[hv];exact hQ);refine θ<|γ U<|al U U<|key<|γ U<|dj U U<|dj U U<|dj U U<|γ U<|γ U<|γ U<|ε ?_;refine ν<|θ<|γ U<|dR U<|ε ?_;refine aD U U ?_;refine θ<|γ U<|ε (aj ⟨_,rfl,by have:=hQ h n (Ext.refl h n);rw[nV,hs]at this;exact this⟩)
 | some pq=>
  obtain⟨p,q⟩:=pq;have hv:Ax s=.u [st p,st q,.b true]:=by unfold Ax;rw[hs]
  have xh:=aga hs;have key:∀{Q:V->Hf->K->Prop},Q (.u [st p,st q,.b true]) h n->τ C (.f 257 [] []) [st s] h n Q:=λhQ=>Wu hC hlen (by rw[hv];exact hQ);simp only[nV,hs]at hQ;refine θ<|γ U<|al U U<|key<|γ U<|dj U U<|dj U U<|dj U U<|γ U<|γ U<|γ U<|ε ?_;refine ν<|θ<|γ U<|dR U<|ε ?_;refine aE U U<|ao ?_;refine ν<|θ<|γ U<|al U U<|Cm hC (by omega)<|γ U<|al U U<|Cm hC (by omega)<|fx U <| λh1 n1 dZ a1 e1=>al U U<|CW hC.f48 (l:=[gK p,gK q]) (ρ.whole (len:=2) (by omega) a1 rfl) (by simp)<|γ U<|ε ?_;rw[AE];refine θ<|γ U<|fT U U<|ε ?_;by_cases hp:gK p=0
  ·by_cases hq:gK q=0
   ·refine aE U (by simp[hp,hq])<|ao ?_;simp only[hp,hq,ne_eq,not_true_eq_false,if_false]at hQ;obtain⟨fp,lp⟩:=Ce hp;obtain⟨Ge,lq⟩:=Ce hq;have xh:=II hp;have JD:=II hq;have C1:0<q.length:=by cases q with | nil=>exact absurd rfl (My Ge) | cons=>simp
    have uw:=ahm C1;have kf:∀(b:Bool) h' n',Ext h1 n1 h' n'->b=decide (isNeg q=true\/dec (body q)=0\/Nat.gcd (dec (body p)) (dec (body q))≠1)->Q (.i .i64 (if b then 1 else 0)) h' n':=by
     intro b h' n' e hb;have:=hQ h' n' (e1.trans e);rw[hb];by_cases hc:(isNeg q=true\/dec (body q)=0\/Nat.gcd (dec (body p)) (dec (body q))≠1)
     ·rw[az hc]at this;simpa[hc]using this
     ·rw[ai hc]at this;simpa[hc]using this
    by_cases hz:q=[48]
    ·refine θ<|γ U<|gg (b:=[48]) U U<|γ U<|σ U (by simp[hz])<|σ U (by simp[hz])<|σ U (by simp[hz])<|cg U (by simp[hz]) U<|γ U<|σ U U<|σ U U<|σ U U<|σ U U<|σ U U<|σ U U<|σ U U<|cg U U U<|al U U<|pe hC<|γ U<|ε ?_;refine aj ⟨_,rfl,kf true _ _ (Ext.refl _ _) ?_⟩;have:dec (body q)=0:=(MC Ge).2 hz;simp[this]
    ·have hz':¬ dec (body q)=0:=λe=>hz ((MC Ge).1 e);by_cases hn:q[0].toNat=45
     ·refine θ<|γ U<|gg (b:=[48]) U U<|γ U<|κ U (by simp[hz])<|γ U<|κ U (by simp[hz])<|mq U U C1<|κ U (by simp[hz])<|bQ U U<|bE U (by simp[hz]) U<|γ U<|σ U (by simp<;>omega)<|σ U (by simp<;>omega)<|σ U (by simp<;>omega)<|σ U (by simp<;>omega)<|σ U (by simp<;>omega)<|σ U (by simp<;>omega)<|σ U (by simp<;>omega)<|cg U (by simp<;>omega) U<|al U U<|pe hC<|γ U<|ε ?_;refine aj ⟨_,rfl,kf true _ _ (Ext.refl _ _) ?_⟩;simp[uw,hn]
     ·refine θ<|γ U<|gg (b:=[48]) U U<|γ U<|κ U (by simp[hz])<|γ U<|κ U (by simp[hz])<|mq U U C1<|κ U (by simp[hz])<|bQ U U<|bE U (by simp[hz]) U<|γ U<|κ U (by simp<;>omega)<|γ U<|κ U (by simp<;>omega)<|al U U<|WJ hC (by omega) fp <| λna va la h2 n2 e2 i2 q2 l2 v2=>κ U (by simp<;>omega)<|γ U<|κ U (by simp<;>omega)<|al U U<|WJ hC (by omega) Ge <| λnb vb lb h3 n3 e3 i3 q3 l3 v3=>κ U (by simp<;>omega)<|al U U<|aha hC (by omega) (by omega) q2 q3 (i2.ext e3) i3 <| λvg g h4 n4 e4 i4 q4 v4=>κ U (by simp<;>omega)<|al U U<|ahl hC (?_) q4 i4 <| λw h5 n5 e5 hw=>κ U (by simp<;>omega)<|rN (b:=[49]) U U<|bE U (by simp<;>omega) U<|al U U<|pe hC<|γ U<|ε ?_
      ·have eJ:0<val 10000 lb:=by rw[v3];omega
       have:=pU (B:=10000) q4.2 q3.1 (by omega) (by rw[v4];exact Nat.le_of_dvd eJ (Nat.gcd_dvd_right _ _));omega
      ·refine aj ⟨_,rfl,kf _ _ _ (((e2.trans e3).trans e4).trans e5) ?_⟩;rw[v4,v2,v3]at hw;by_cases DW:w=[49]
       ·have:=hw.1 DW;simp[DW,this,uw,hn,hz']
       ·have:¬ Nat.gcd (dec (body p)) (dec (body q))=1:=λe=>DW (hw.2 e);simp[DW,this]
   ·refine aD U (by simp[hp,hq]) ?_;simp only[hp,hq,ne_eq,not_true_eq_false,if_false,not_false_eq_true,if_true]at hQ ⊢;refine θ<|γ U<|γ U<|ε (aj ⟨_,rfl,hQ _ _ e1⟩)
  ·refine aD U (by simp[hp]) ?_;simp only[hp,ne_eq,not_false_eq_true,if_true]at hQ ⊢;refine θ<|γ U<|γ U<|ε (aj ⟨_,rfl,hQ _ _ e1⟩)
def isNumeral(s:S):Bool:=decide (gK s=0)||decide (nV s=0)
theorem ahn(hC:Cd C){s:S}(hlen:s.length<1000000)(hQ:∀h' n',Ext h n h' n'->Q (.b (isNumeral s)) h' n'):τ C (.f 192 [] []) [st s] h n Q:=by
 refine τ.go hC.f192 U ?_;refine θ<|γ U<|ε ?_;unfold isNumeral at hQ;by_cases hn:gK s=0
 ·refine θ<|γ U<|al U U<|Cm hC hlen<|bQ U U<|γ U<|σ U (by simp[hn])<|σ U (by simp[hn])<|σ U (by simp[hn])<|cg U (by simp[hn]) U<|γ U<|ε (aj ⟨_,rfl,by simpa[hn]using hQ _ _ (Ext.refl _ _)⟩)
 ·refine θ<|γ U<|al U U<|Cm hC hlen<|bQ U U<|γ U<|κ U (by simp[hn])<|γ U<|κ U (by simp[hn])<|al U U<|WQ hC hlen <| λh1 n1 e1=>κ U (by simp[hn])<|bQ U U<|bE U (by simp[hn]) U<|γ U<|ε (aj ⟨_,rfl,by simpa[hn]using hQ _ _ e1⟩)
def pg(c:UInt8):Bool:=!(decide (c.toNat=32)||decide (c.toNat=10)||decide (c.toNat=40)||decide (c.toNat=41)||decide (c.toNat=123)||decide (c.toNat=125))
def rW(s:S):Bool:=!decide (s.length=0)&&(!decide (200<s.length)&&s.all pg)
theorem aho{s:S}(hl:s.length<10000000):∀(m i:Nat),s.length - i=m->i<=s.length->Q (.b ((s.drop i).all pg)) h n->WC C T4 [(k0,st s),(k3,.i .i64 (i:Nat))] h n (blk 0 (sq C Ih (fq [.t k2] Q))):=by
 intro m
 induction m with
 | zero=>
  intro i hm hi hQ;refine aQ ?_;refine ν<|θ<|γ U<|γ U<|cW U<|aP U U<|ε ?_;refine aE U (by simp<;>omega)<|bW ?_;have:i=s.length:=by omega
  subst this;refine θ<|γ U<|ε (aj ⟨_,rfl,by simpa using hQ⟩)
 | succ m ih=>
  intro i hm hi hQ;have ψ:i<s.length:=by omega
  rw[gi ψ,List.all_cons]at hQ;have yes:pg s[i]=false->WC C LG [(bp,.b true)] h n (blk 2 (blk 1 (sq C LH (sq C (.loop LI) (blk 0 (sq C Ih (fq [.t k2] Q))))))):=by intro hp;rw[hp]at hQ;refine aD U U ?_;refine θ<|γ U<|ε (aj ⟨_,rfl,hQ⟩)
  have no:pg s[i]=true->WC C LG [(k0,st s),(k3,.i .i64 (i:Nat)),(bp,.b false)] h n (blk 2 (blk 1 (sq C LH (sq C (.loop LI) (blk 0 (sq C Ih (fq [.t k2] Q))))))):=by intro hp;rw[hp]at hQ;refine aE U U<|ao ?_;refine aR<|γ U<|cK U U ⟨by omega,by omega⟩<|γ U<|ε ?_;exact ae (ih (i+1) (by omega) (by omega) (by simpa using hQ)) ⟨rfl,rfl,trivial⟩
  refine aQ ?_;refine ν<|θ<|γ U<|γ U<|cW U<|aP U U<|ε ?_;refine aD U (by simp<;>omega)<|ao ?_;refine ν<|aK<|θ<|γ U<|γ U<|mq U U ψ<|ε ?_;generalize hc:s[i]=c at*;refine aK<|ν<|θ<|bQ U U<|γ U<|ε ?_;refine di U (λhx=>ao ?_) (λhx=>?_)
  ·simp only[bT]at hx;exact ae (yes (by simp[pg];omega)) ⟨by show some (V.b _)=_;simp[hx],trivial⟩
  simp only[dn]at hx;refine θ<|bQ U U<|γ U<|ε ?_;refine di U (λjQ=>ao ?_) (λjQ=>?_)
  ·simp only[bT]at jQ;exact ae (yes (by simp[pg];omega)) ⟨by show some (V.b _)=_;simp[jQ],trivial⟩
  simp only[dn]at jQ;refine θ<|bQ U U<|γ U<|ε ?_;refine di U (λmK=>ao ?_) (λmK=>?_)
  ·simp only[bT]at mK;exact ae (yes (by simp[pg];omega)) ⟨by show some (V.b _)=_;simp[mK],trivial⟩
  simp only[dn]at mK;refine θ<|bQ U U<|γ U<|ε ?_;refine di U (λAD=>ao ?_) (λAD=>?_)
  ·simp only[bT]at AD;exact ae (yes (by simp[pg];omega)) ⟨by show some (V.b _)=_;simp[AD],trivial⟩
  simp only[dn]at AD;refine θ<|bQ U U<|γ U<|ε ?_;refine di U (λC3=>ao ?_) (λC3=>?_)
  ·simp only[bT]at C3;exact ae (yes (by simp[pg];omega)) ⟨by show some (V.b _)=_;simp[C3],trivial⟩
  simp only[dn]at C3;refine aR<|bQ U U<|γ U<|ε ?_;by_cases MY:(c.toNat:Int)=125
  ·exact ae (yes (by simp[pg];omega)) ⟨by show some (V.b _)=_;simp[MY],trivial⟩
  ·exact ae (no (by simp[pg];omega)) ⟨rfl,rfl,by show some (V.b _)=_;simp[MY],trivial⟩
theorem ahp(hC:Cd C){s:S}(hlen:s.length<10000000)(hQ:Q (.b (rW s)) h n):τ C (.f 130 [] []) [st s] h n Q:=by
 refine τ.go hC.f130 U ?_;refine θ<|γ U<|ε ?_;unfold rW at hQ;by_cases h1:s.length=0
 ·refine ν<|θ<|γ U<|cW U<|bQ U U<|γ U<|σ U (by simp[h1])<|σ U (by simp[h1])<|σ U (by simp[h1])<|cg U (by simp[h1]) U<|ε ?_;refine aD U U ?_;refine θ<|γ U<|ε (aj ⟨_,rfl,by simpa[h1]using hQ⟩)
 ·refine ν<|θ<|γ U<|cW U<|bQ U U<|γ U<|κ U (by simp[h1])<|γ U<|κ U (by simp[h1])<|cW U<|κ U (by simp[h1])<|cQ U U<|bE U (by simp[h1]) U<|ε ?_;by_cases h2:200<s.length
  ·refine aD U (by simp<;>omega) ?_;refine θ<|γ U<|ε (aj ⟨_,rfl,by simpa[h2]using hQ⟩)
  ·refine aE U (by simp<;>omega)<|ao ?_;refine ν<|θ<|γ U<|ε ?_;exact aK<|ae (aho hlen _ 0 rfl (by omega) (by simpa[h1,h2]using hQ)) ⟨rfl,rfl,trivial⟩
theorem w50(hC:Cd C){s:S}(hlen:s.length<10000000)(hQ:Q (.b (rW s)) h n):τ C (.f 50 [] []) [st s] h n Q:=by refine τ.go hC.f50 U ?_;refine θ<|γ U<|ε ?_;refine θ<|γ U<|al U U<|ahp hC hlen<|γ U<|ε (aj ⟨_,rfl,hQ⟩)
theorem OV(hC:Cd C){op:Int}(hQ:Q (.b (decide (op=17\/op=18))) h n):τ C (.f 66 [] []) [.i .i64 op] h n Q:=by
 refine τ.go hC.f66 U ?_;refine θ<|γ U<|ε ?_;by_cases h1:op=17
 ·refine θ<|γ U<|bQ U U<|γ U<|σ U (by simp[h1])<|σ U (by simp[h1])<|cg U (by simp[h1]) U<|γ U<|ε (aj ⟨_,rfl,by simpa[h1]using hQ⟩)
 ·refine θ<|γ U<|bQ U U<|γ U<|κ U (by simp[h1])<|γ U<|κ U (by simp[h1])<|bQ U U<|bE U (by simp[h1]) U<|γ U<|ε (aj ⟨_,rfl,by simpa[h1]using hQ⟩)
theorem ahr{v:V}{l:List (S×S)}{name:S}(hv:fC h n v l)(hlen:l.length<1000000):∀(m i:Nat),l.length - i=m->i<=l.length->Q (.i .i64 (qI name (l.drop i) i)) h n->WC C T8 [(k0,v),(k1,st name),(k5,.i .i64 (i:Nat))] h n (blk 0 (sq C T9 (fq [.t k4] Q))):=by
 intro m
 induction m with
 | zero=>
  intro i hm hi hQ;have:i=l.length:=by omega
  subst this;refine aQ ?_;refine ν<|θ<|γ U<|γ U<|aG U hv<|aP U U<|ε ?_;refine aE U (by simp)<|bW ?_;refine θ<|γ U<|ε (aj ⟨_,rfl,by simpa[qI]using hQ⟩)
 | succ m ih=>
  intro i hm hi hQ;have ψ:i<l.length:=by omega
  rw[gi ψ,qI]at hQ;refine aQ ?_;refine ν<|θ<|γ U<|γ U<|aG U hv<|aP U U<|ε ?_;refine aD U (by simp<;>omega)<|ao ?_;refine ν<|aK<|θ<|γ U<|γ U<|bh U U hv ψ<|Ω U<|χ U (hv.name ψ _)<|γ U<|gg U U<|ε ?_;refine di U (λhx=>?_) (λhx=>ao ?_)
  ·simp only[bT]at hx;rw[az hx]at hQ;refine θ<|γ U<|γ U<|ε (aj ⟨_,rfl,hQ⟩)
  ·simp only[dn]at hx;rw[ai hx]at hQ;refine aR<|γ U<|cK U U ⟨by omega,by omega⟩<|γ U<|ε ?_;exact ae (ih (i+1) (by omega) (by omega) hQ) ⟨rfl,rfl,rfl,trivial⟩
theorem ahs(hC:Cd C){v:V}{l:List (S×S)}{name:S}(hv:fC h n v l)(hlen:l.length<1000000)(hQ:Q (.i .i64 (qI name l 0)) h n):τ C (.f 117 [] []) [v,st name] h n Q:=by refine τ.go hC.f117 U ?_;refine θ<|γ U<|ε ?_;refine ν<|θ<|γ U<|ε ?_;exact aK<|ae (ahr hv hlen _ 0 rfl (by omega) hQ) ⟨rfl,rfl,rfl,trivial⟩
end
section
variable {C:Nat->Option bP}{h:Hf}{n:K}{Q:V->Hf->K->Prop}
def jj(op:Int)(k:Nat):Bool:=
 if op=0\/op=1\/op=2\/op=3 then decide (k=0) else if op=4\/op=6\/op=7 then true else if op=5 then decide (k=1) else if op=10 then decide (k=3)
 else if op=17\/op=18\/op=19 then decide (1<=k) else decide (k=2)
theorem kU(x:Nd){vv kv:V}(hv:vv.one=true)(hk:kv.one=true):bN (dT x vv kv)=true:=by simp only[dT,bN,hv,hk];rfl
theorem WR(hC:Cd C){x:Nd}{vv kv:V}(hv:vv.one=true)(hk:gh h n .i64 kv x.kids)(hQ:∀h' n',Ext h n h' n'->Q (.b (jj x.op x.kids.length)) h' n'):τ C (.f 108 [] []) [.a (dT x vv kv)] h n Q:=by
 refine τ.go hC.f108 U ?_;refine θ<|eL U U (kU x hv (ρ.one hk)) <| λh1 n1 dZ a1 e1=>γ U<|ε ?_;have lo:cD h1 false 1 (.p n (0+0))=some (.i .i64 x.op):=dV a1 rfl _;have lk:cD h1 false 1 (.p n (0+4))=some kv:=dV a1 rfl _;have hQ:=hQ h1 n1 e1;refine ν<|θ<|Ω U<|χ U lo<|ε ?_;generalize fm:x.op=op at*;have f6:op=0\/op=1\/op=2\/op=3->WC C Tl [(k1,.p n 0),(k5,.b true)] h1 n1 (blk 0 (sq C Ey (fq [.t k2] Q))):=by
  intro ho;refine aD U U ?_;have e:jj op x.kids.length=decide ((x.kids.length:Int)=0):=by simp only[jj,az ho];simp
  refine θ<|Ω U<|χ U lk<|aG U hk<|bQ U U<|γ U<|ε (aj ⟨_,rfl,by rw[e]at hQ;exact hQ⟩)
 have f30:¬ (op=0\/op=1\/op=2\/op=3)->¬ (op=4\/op=6\/op=7)->op≠5->op≠10->¬ (op=17\/op=18\/op=19)->WC C Ey [(k1,.p n 0)] h1 n1 (fq [.t k2] Q):=by
  intro g1 g2 g3 g4 g5;have e:jj op x.kids.length=decide ((x.kids.length:Int)=2):=by simp only[jj,ai g1,ai g2,ai g3,ai g4,ai g5];simp;omega
  refine θ<|Ω U<|χ U lk<|aG U hk<|bQ U U<|γ U<|ε (aj ⟨_,rfl,by rw[e]at hQ;exact hQ⟩)
 refine aK<|ν<|θ<|bQ U U<|γ U<|ε ?_;refine di U (λGd=>ao ?_) (λGd=>?_)
 ·simp only[bT]at Gd;exact ae (f6 (by omega)) ⟨rfl,by show some (V.b _)=_;simp[Gd],trivial⟩
 simp only[dn]at Gd;refine θ<|bQ U U<|γ U<|ε ?_;refine di U (λqy=>ao ?_) (λqy=>?_)
 ·simp only[bT]at qy;exact ae (f6 (by omega)) ⟨rfl,by show some (V.b _)=_;simp[qy],trivial⟩
 simp only[dn]at qy;refine θ<|bQ U U<|γ U<|ε ?_;refine di U (λjQ=>ao ?_) (λjQ=>?_)
 ·simp only[bT]at jQ;exact ae (f6 (by omega)) ⟨rfl,by show some (V.b _)=_;simp[jQ],trivial⟩
 simp only[dn]at jQ;refine aR<|bQ U U<|γ U<|ε ?_;by_cases mK:op=3
 ·exact ae (f6 (by omega)) ⟨rfl,by show some (V.b _)=_;simp[mK],trivial⟩
 have g1:¬ (op=0\/op=1\/op=2\/op=3):=by omega
 have f11:op=4\/op=6\/op=7->WC C Tk [(k1,.p n 0),(aT,.b true)] h1 n1 (blk 0 (sq C Ey (fq [.t k2] Q))):=by
  intro ho;refine aD U U ?_;have e:jj op x.kids.length=true:=by simp only[jj,ai g1,az ho]
  refine θ<|γ U<|ε (aj ⟨_,rfl,by rw[e]at hQ;exact hQ⟩)
 refine aE U (by simp[mK]) ?_;refine ν<|θ<|bQ U U<|γ U<|ε ?_;refine di U (λAD=>ao ?_) (λAD=>?_)
 ·simp only[bT]at AD;exact ae (f11 (by omega)) ⟨rfl,by show some (V.b _)=_;simp[AD],trivial⟩
 simp only[dn]at AD;refine θ<|bQ U U<|γ U<|ε ?_;refine di U (λC3=>ao ?_) (λC3=>?_)
 ·simp only[bT]at C3;exact ae (f11 (by omega)) ⟨rfl,by show some (V.b _)=_;simp[C3],trivial⟩
 simp only[dn]at C3;refine aR<|bQ U U<|γ U<|ε ?_;by_cases MY:op=7
 ·exact ae (f11 (by omega)) ⟨rfl,by show some (V.b _)=_;simp[MY],trivial⟩
 have g2:¬ (op=4\/op=6\/op=7):=by omega
 refine aE U (by simp[MY]) ?_;refine θ<|bQ U U<|γ U<|ε ?_;refine di U (λGf=>?_) (λGf=>?_)
 ·simp only[bT]at Gf;have e:jj op x.kids.length=decide ((x.kids.length:Int)=1):=by simp only[jj,ai g1,ai g2,az Gf];simp;omega
  refine θ<|Ω U<|χ U lk<|aG U hk<|bQ U U<|γ U<|ε (aj ⟨_,rfl,by rw[e]at hQ;exact hQ⟩)
 simp only[dn]at Gf;refine θ<|bQ U U<|γ U<|ε ?_;refine di U (λJG=>?_) (λJG=>?_)
 ·simp only[bT]at JG;have e:jj op x.kids.length=decide ((x.kids.length:Int)=3):=by simp only[jj,ai g1,ai g2,ai Gf,az JG];simp;omega
  refine θ<|Ω U<|χ U lk<|aG U hk<|bQ U U<|γ U<|ε (aj ⟨_,rfl,by rw[e]at hQ;exact hQ⟩)
 simp only[dn]at JG;have f18:op=17\/op=18\/op=19->WC C Tj [(k1,.p n 0),(cn,.b true)] h1 n1 (blk 0 (sq C Ey (fq [.t k2] Q))):=by
  intro ho;refine aD U U ?_;have e:jj op x.kids.length=decide (1<=(x.kids.length:Int)):=by simp only[jj,ai g1,ai g2,ai Gf,ai JG,az ho];simp;omega
  refine θ<|Ω U<|χ U lk<|aG U hk<|fU U U<|γ U<|ε (aj ⟨_,rfl,by rw[e]at hQ;exact hQ⟩)
 refine ν<|θ<|bQ U U<|γ U<|ε ?_;refine di U (λOW=>ao ?_) (λOW=>?_)
 ·simp only[bT]at OW;exact ae (f18 (by omega)) ⟨rfl,by show some (V.b _)=_;simp[OW],trivial⟩
 simp only[dn]at OW;refine θ<|bQ U U<|γ U<|ε ?_;refine di U (λEW=>ao ?_) (λEW=>?_)
 ·simp only[bT]at EW;exact ae (f18 (by omega)) ⟨rfl,by show some (V.b _)=_;simp[EW],trivial⟩
 simp only[dn]at EW;refine aR<|bQ U U<|γ U<|ε ?_;by_cases WS:op=19
 ·exact ae (f18 (by omega)) ⟨rfl,by show some (V.b _)=_;simp[WS],trivial⟩
 refine aE U (by simp[WS])<|ao ?_;exact ae (f30 g1 g2 Gf JG (by omega)) ⟨rfl,trivial⟩
end
end Go.Ev.X
