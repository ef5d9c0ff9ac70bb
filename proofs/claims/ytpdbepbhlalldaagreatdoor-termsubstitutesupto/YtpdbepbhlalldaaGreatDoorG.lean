/- A part of the proof. -/
import Derived.Test.YtpdbepbhlalldaaGreatDoorD
set_option linter.all false
namespace Go.Ev.X
section
def val(B:Nat):List Nat->Nat
 | []=>0
 | a::l=>a+B*val B l
def Sm(B:Nat)(l:List Nat):Prop:=∀a∈l,a<B
def Nz(l:List Nat):Prop:=∀(h:l≠[]),l.getLast h≠0
def dC(B:Nat)(l:List Nat):Prop:=Sm B l/\Nz l
def cG:List Nat->List Nat
 | []=>[]
 | a::l=>match cG l with
  | []=>if a=0 then [] else [a]
  | b::m=>a::b::m
section
variable {B:Nat}
def Sm.nil:Sm B []:=λa h=>by cases h
def Sm.cons{a:Nat}{l:List Nat}(h:a<B)(hl:Sm B l):Sm B (a::l):=λx b=>by
 cases b with
 | head=>exact h
 | tail _ b=>exact hl x b
def Sm.tail{a:Nat}{l:List Nat}(h:Sm B (a::l)):Sm B l:=λx b=>h x (by simp[b])
def Sm.get{l:List Nat}(h:Sm B l){i:Nat}(hi:i<l.length):l[i]<B:=h _ (bK _)
def Sm.take{l:List Nat}(h:Sm B l)(i:Nat):Sm B (l.take i):=λx a=>h x (qX a)
def Sm.set{l:List Nat}(h:Sm B l){i x:Nat}(b:x<B):Sm B (l.set i x):=λy a=>by
 rcases List.mem_or_eq_of_mem_set a with a | rfl
 ·exact h y a
 ·exact b
def Sm.getD{l:List Nat}(h:Sm B l)(hB:0<B)(i:Nat):l.getD i 0<B:=by
 rw[dH];by_cases hi:i<l.length
 ·rw[df hi];exact h.get hi
 ·rw[qY (by omega)];exact hB
def Sm.rep(hB:0<B)(n:Nat):Sm B (List.replicate n 0):=λx a=>by rw[List.eq_of_mem_replicate a];exact hB
def uG(l m:List Nat):val B (l++m)=val B l+B ^ l.length*val B m:=by
 induction l with
 | nil=>simp[val]
 | cons a l ih=>simp only[pc,val,ih,dy,fy,eV,j3];rw[cT (B ^ l.length) B,gn]
def Jd(l:List Nat)(i:Nat):val B l=val B (l.take i)+B ^ (l.take i).length*val B (l.drop i):=by rw[←uG,xI]
def nT{l:List Nat}(h:Sm B l):val B l<B ^ l.length:=by
 induction l with
 | nil=>simp[val]
 | cons a l ih=>
  have h1:=ih h.tail;have h2:=h a (by simp);simp only[val,dy,fy];have:B*(val B l+1)<=B*B ^ l.length:=pa _ h1;rw[eV,jz]at this;rw[cT (B ^ l.length)];omega
def Rq(n:Nat):val B (List.replicate n 0)=0:=by
 induction n with
 | zero=>rfl
 | succ n ih=>simp[ub,val,ih]
def EE(l:List Nat){i:Nat}(hi:i<l.length)(x:Nat):val B (l.set i x)+B ^ i*l[i]=val B l+B ^ i*x:=by
 induction l generalizing i with
 | nil=>simp at hi
 | cons a l ih=>
  cases i with
  | zero=>simp[val];omega
  | succ i=>
   have b:i<l.length:=by simpa using hi
   have h:=ih b;simp only[ra,val,pb,fy];have h1:B*(val B (l.set i x)+B ^ i*l[i])=B*(val B l+B ^ i*x):=by rw[h]
   rw[eV,eV]at h1;rw[cT (B ^ i) B,gn,gn];omega
def rI(l:List Nat)(i:Nat):val B (l.take (i+1))=val B (l.take i)+B ^ i*l.getD i 0:=by
 by_cases hi:i<l.length
 ·rw[fL hi,uG];simp only[val,ot,jx,hJ];rw[rW (by omega),dH,df hi];rfl
 ·rw[kI (by omega),kI (by omega),dH,qY (by omega)];simp
def wE(l:List Nat){i:Nat}(hi:i<l.length):val B (l.drop i)=l[i]+B*val B (l.drop (i+1)):=by rw[eo hi,val]
def nU(l:List Nat):val B (cG l)=val B l:=by
 induction l with
 | nil=>rfl
 | cons a l ih=>
  simp only[cG];split
  ·rename_i h;rw[h]at ih;split
   ·rename_i c;simp only[val,←ih,c];simp[val]
   ·simp only[val,←ih]
  ·rename_i b m h;rw[h]at ih;rw[val,ih];rfl
def afE(l:List Nat):∀x∈cG l,x∈l:=by
 induction l with
 | nil=>intro x h;cases h
 | cons a l ih=>
  intro x c;simp only[cG]at c;split at c
  ·split at c
   ·cases c
   ·simp at c;simp[c]
  ·rename_i b m h;rw[h]at ih;cases c with
   | head=>simp
   | tail _ c=>simp[ih x c]
def Rr{l:List Nat}(h:Sm B l):Sm B (cG l):=λx a=>h x (afE l x a)
def afF(l:List Nat):Nz (cG l):=by
 induction l with
 | nil=>intro h;exact absurd rfl h
 | cons a l ih=>
  rw[cG];cases hs:cG l with
  | nil=>
   simp only;by_cases c:a=0
   ·simp only[c,if_true];intro h;exact absurd rfl h
   ·simp only[c,if_false];intro h;simpa using c
  | cons b m=>
   rw[hs]at ih;intro h;have:=ih (by simp);show(a::b::m).getLast _≠0;rw[List.getLast_cons (by simp)];exact this
def pB{l:List Nat}(h:Sm B l):dC B (cG l):=⟨Rr h,afF l⟩
def Rs{l:List Nat}(h:Nz l):cG l=l:=by
 induction l with
 | nil=>rfl
 | cons a l ih=>
  have hl:Nz l:=λc=>by have:=h (by simp);rw[List.getLast_cons c]at this;exact this
  rw[cG,ih hl];cases l with
  | nil=>
   have:=h (by simp);simp at this;simp[this]
  | cons b m=>rfl
def afG(l:List Nat):cG (l++[0])=cG l:=by
 induction l with
 | nil=>rfl
 | cons a l ih=>rw[pc,cG,ih,cG]
def afH(l:List Nat){x:Nat}(a:x≠0):cG (l++[x])=l++[x]:=Rs λh=>by simpa using a
def dC.nil:dC B []:=⟨Sm.nil,λh=>absurd rfl h⟩
def EF{l:List Nat}(h:Nz l)(hB:0<B)(a:l≠[]):B ^ (l.length - 1)<=val B l:=by have h1:=h a;have h2:l=l.dropLast++[l.getLast a]:=(List.dropLast_concat_getLast a).symm;rw[h2,uG];simp only[val,jx,hJ,gp,List.length_singleton,Nat.add_sub_cancel,List.length_dropLast];have:B ^ (l.length - 1)*1<=B ^ (l.length - 1)*l.getLast a:=pa _ (by omega);omega
def val_zero{l:List Nat}(h:Nz l)(hB:0<B):val B l=0↔l=[]:=by
 constructor
 ·intro hv;by_cases a:l=[]
  ·exact a
  ·have:=EF h hB a;have:0<B ^ (l.length - 1):=Nat.pow_pos hB;omega
 ·rintro rfl;rfl
def nV{l m:List Nat}(hl:Nz l)(hm:Sm B m)(hB:1<B)(h:val B l<=val B m):l.length<=m.length:=by
 by_cases a:l=[]
 ·simp[a]
 ·have h1:=EF (B:=B) hl (by omega) a;have h2:=nT hm;by_cases b:l.length<=m.length
  ·exact b
  ·have:B ^ m.length<=B ^ (l.length - 1):=vK (by omega) (by omega);omega
def val_inj{l m:List Nat}(hl:dC B l)(hm:dC B m)(hB:1<B)(h:val B l=val B m):l=m:=by
 have hlen:l.length=m.length:=Nat.le_antisymm (nV hl.2 hm.1 hB (by omega)) (nV hm.2 hl.1 hB (by omega));have:∀(l m:List Nat),l.length=m.length->Sm B l->Sm B m->val B l=val B m->l=m:=by
  intro l
  induction l with
  | nil=>intro m h _ _ _;cases m with | nil=>rfl | cons=>simp at h
  | cons a l ih=>
   intro m h h1 h2 hv;cases m with
   | nil=>simp at h
   | cons b m=>
    simp only[val]at hv;have c:=h1 a (by simp);have hb:=h2 b (by simp);have d:a=b:=by have:=congrArg (· % B) hv;simp only[Nat.add_mul_mod_self_left,tZ c,tZ hb]at this;exact this
    subst d;have e:val B l=val B m:=Nat.eq_of_mul_eq_mul_left (by omega) (Nat.add_left_cancel hv);rw[ih m (by simpa using h) h1.tail h2.tail e]
 exact this l m hlen hl.1 hm.1 h
def fk(a b:Nat):Int:=if a<b then -1 else if b<a then 1 else 0
def Ru{l m:List Nat}(hl:dC B l)(hm:dC B m)(hB:1<B)(b:l.length≠m.length):fk (val B l) (val B m)=fk l.length m.length:=by
 by_cases h:l.length<m.length
 ·have a:¬ val B m<=val B l:=λa=>by have:=nV hm.2 hl.1 hB a;omega
  simp[fk,h,show val B l<val B m by omega]
 ·have a:¬ val B l<=val B m:=λa=>by have:=nV hl.2 hm.1 hB a;omega
  simp[fk,h,show ¬ val B l<val B m by omega,show val B m<val B l by omega,show m.length<l.length by omega]
def Rv{l m:List Nat}(hl:Sm B l)(hm:Sm B m)(hlen:l.length=m.length){i:Nat}(hi:i<l.length)(c:l.drop (i+1)=m.drop (i+1))(n:l[i]≠m[i]'(by omega)):
 fk (val B l) (val B m)=fk l[i] (m[i]'(by omega)):=by
 have d:i<m.length:=by omega
 have a:=Jd (B:=B) l i;have b:=Jd (B:=B) m i;rw[wE l hi,c]at a;rw[wE m d]at b;have e:=nT (hl.take i);have f:=nT (hm.take i);have g:(l.take i).length=i:=by simp;omega
 have j:(m.take i).length=i:=by simp;omega
 rw[g]at a e;rw[j]at b f;generalize val B (List.drop (i+1) m)=X at*;by_cases h:l[i]<m[i]
 ·have:B ^ i*(l[i]+B*X+1)<=B ^ i*(m[i]+B*X):=pa _ (by omega);rw[eV _ _ 1]at this;simp[fk,h,show val B l<val B m by omega]
 ·have k:m[i]<l[i]:=by omega
  have:B ^ i*(m[i]+B*X+1)<=B ^ i*(l[i]+B*X):=pa _ (by omega);rw[eV _ _ 1]at this;simp[fk,h,k,show ¬ val B l<val B m by omega,show val B m<val B l by omega]
def Rw(a:Nat):fk a a=0:=by simp[fk]
def yz{l:List Nat}(hl:Sm B l)(hB:0<B)(i:Nat):val B l / B ^ i=val B (l.drop i):=by
 by_cases hi:i<=l.length
 ·have e:=Jd (B:=B) l i;have t:=nT (hl.take i);have q:(l.take i).length=i:=by simp;omega
  rw[q]at e t;rw[e,Nat.add_mul_div_left _ _ (Nat.pow_pos hB),Nat.div_eq_of_lt t,eW]
 ·rw[oo (by omega),val];have h1:=nT hl;have:B ^ l.length<=B ^ i:=vK hB (by omega);exact Nat.div_eq_of_lt (by omega)
def uH(l:List Nat)(i:Nat):val B (l.drop i)=l.getD i 0+B*val B (l.drop (i+1)):=by
 by_cases hi:i<l.length
 ·rw[wE l hi,dH,df hi];rfl
 ·rw[oo (by omega),oo (by omega),dH,qY (by omega)];simp[val]
structure Dg(B R b head l2 top next P:Nat):Prop where
 hB:2<=B
 hR:R<B*b
 r1:(head*B+l2)*P<=R
 r2:R<(head*B+l2+1)*P
 b1:(top*B+next)*P<=b
 b2:b<(top*B+next+1)*P
 kA:l2<B
 pC:next<B
 kg:B<=2*top
 hP:0<P
def Dg.head{R b head l2 top next P:Nat}(d:Dg B R b head l2 top next P):head<B*(top+1):=by
 obtain⟨hB,hR,r1,r2,b1,b2,kA,pC,kg,hP⟩:=d;have h1:(top*B+next+1)*P<=(B*(top+1))*P:=fJ _ (by rw[eV,cT top B];omega);have h2:B*b<B*((B*(top+1))*P):=Ds (by omega) (by omega);have e:(head*B)*P<=(head*B+l2)*P:=fJ _ (by omega);have a:(head*B)*P<(B*(top+1)*B)*P:=by
  have:B*((B*(top+1))*P)=(B*(top+1)*B)*P:=by rw[←gn,cT B (B*(top+1))]
  omega
 have c:=zR a;exact zR c
def Dg.first{R b head l2 top next P:Nat}(d:Dg B R b head l2 top next P):R / b<=head / top/\head / top<=B+1:=by
 have c:=d.head;obtain⟨hB,hR,r1,r2,b1,b2,kA,pC,kg,hP⟩:=d;have ht:0<top:=by omega
 constructor
 ·rw[Nat.le_div_iff_mul_le ht];have h1:R / b*b<=R:=Nat.div_mul_le_self R b;have h2:R / b*(top*B*P)<=R / b*b:=pa _ (dU (fJ _ (by omega)) b1);have e:(head*B+l2+1)*P<=((head+1)*B)*P:=fJ _ (by rw[fM];omega);have a:(R / b*top*B)*P<((head+1)*B)*P:=by
   have:R / b*(top*B*P)=(R / b*top*B)*P:=by simp only[gn]
   omega
  have f:=zR (zR a);omega
 ·have:head / top<B+2:=by
   rw[xH ht];have:B*(top+1)<=(B+2)*top:=by rw[eV,fM];omega
   omega
  omega
def Dg.down{R b head l2 top next P a left:Nat}(d:Dg B R b head l2 top next P)(f:a*top+left=head)(g:R / b<=a)(c:B<=a\/left*B+l2<a*next):R / b<=a - 1/\0<a:=by
 obtain⟨hB,hR,r1,r2,b1,b2,kA,pC,kg,hP⟩:=d;have hb:0<b:=by have:0<(top*B+next)*P:=Nat.mul_pos (by have:0<top*B:=Nat.mul_pos (by omega) (by omega);omega) hP;omega
 have e:R / b<a:=by
  cases c with
  | inl c=>
   have:R / b<B:=by rw[xH hb];exact hR
   omega
  | inr c=>
   rw[xH hb];have h1:a*((top*B+next)*P)<=a*b:=pa _ b1;have h2:(head*B+l2+1)*P<=(a*(top*B+next))*P:=by
    apply fJ;have:a*(top*B+next)=a*top*B+a*next:=by rw[eV,gn]
    rw[this,←f,fM];omega
   rw[gn]at h2;omega
 exact⟨Nat.le_sub_one_of_lt e,Nat.lt_of_le_of_lt (pN _) e⟩
def Dg.done{R b head l2 top next P a left:Nat}(d:Dg B R b head l2 top next P)(c:a*top+left=head)(g:a<B)(h:a*next<=left*B+l2)(hp:P*B<=b):a*b<R+b:=by
 obtain⟨hB,hR,r1,r2,b1,b2,kA,pC,kg,hP⟩:=d;by_cases h0:a=0
 ·subst h0;have:0<P*B:=Nat.mul_pos hP (by omega);omega
 have h1:a*b<a*((top*B+next+1)*P):=Ds b2 (by omega);have h2:(a*(top*B+next))*P<=(head*B+l2)*P:=by
  apply fJ;have:a*(top*B+next)=a*top*B+a*next:=by rw[eV,gn]
  rw[this,←c,fM];omega
 have e:a*((top*B+next+1)*P)=(a*(top*B+next))*P+a*P:=by rw[←gn,eV,jz,fM]
 have f:a*P<=B*P:=fJ _ (by omega);rw[cT B P]at f;rw[e]at h1;omega
def Dg.brk{R b head l2 top next P a left:Nat}(d:Dg B R b head l2 top next P)(e:a*top+left=head)(hl:B<=left):a<B/\a*next<=left*B+l2:=by
 have c:=d.head;obtain⟨hB,hR,r1,r2,b1,b2,kA,pC,kg,hP⟩:=d;have h1:a*top<B*top:=by rw[eV]at c;omega
 have h2:=zR h1;refine⟨h2,?_⟩;have f:a*next<=B*B:=ua (by omega) (by omega);have g:B*B<=left*B:=fJ _ hl;omega
def Rx{R b g:Nat}(hb:0<b)(h1:g*b<=R)(h2:R<g*b+b):R - g*b=R % b:=by
 have:R / b=g:=by
  rw[Nat.div_eq_iff hb];constructor
  ·omega
  ·omega
 have a:=tY R b;rw[this,cT]at a;omega
def Je{x a b:Nat}(B:Nat):(x+B*(a % b)) % b=(x+B*a) % b:=by rw[Nat.add_mod,Nat.mul_mod,Nat.mod_mod,←Nat.mul_mod,←Nat.add_mod]
end
end
end Go.Ev.X
namespace Go.Ev.X
open Go Go.Ev
def fP(c:UInt8):Bool:=decide (48<=c.toNat)&&decide (c.toNat<=57)
def body:S->S
 | []=>[]
 | c::l=>if c.toNat=45 then l else c::l
def isNeg:S->Bool
 | []=>false
 | c::_=>decide (c.toNat=45)
def oe:S->Nat
 | []=>0
 | c::_=>c.toNat
def gV(s:S):Bool:=
 !decide ((body s).length=0)&&(!decide (s=[45,48])&&(!(decide (1<(body s).length)&&decide (oe (body s)=48))&&(body s).all fP))
def fm(s:S):Int:=if gV s then (if 120<(body s).length then 4 else 0) else 1
def Bm{s:S}(h:gV s=true):(∀c∈body s,fP c=true)/\body s≠[]:=by simp only[gV,aK,ov,cg,mE]at h;refine⟨h.2.2.2,λe=>h.1 ?_⟩;rw[e];rfl
def Jf{s:S}(h:gV s=true):s≠[]:=by intro e;subst e;exact absurd h (by decide)
def yA{s:S}(h:fm s=0):gV s=true/\(body s).length<=120:=by
 unfold fm at h;split at h
 ·rename_i hf;split at h
  ·omega
  ·exact⟨hf,by omega⟩
 ·omega
def Bo(s:S):(body s).length<=s.length/\s.length<=(body s).length+1:=by
 cases s with
 | nil=>simp[body]
 | cons c l=>simp only[body];split<;>simp
def mT(n:Nat)(s:S):Nat:=s.foldl (λn c=>10*n+(c.toNat - 48)) n
def dec(s:S):Nat:=mT 0 s
def afI(s:S):∀n,mT n s=n*10 ^ s.length+dec s:=by
 induction s with
 | nil=>intro n;simp[mT,dec]
 | cons c l ih=>
  intro n;have a:=ih (10*n+(c.toNat - 48));have b:=ih (10*0+(c.toNat - 48));simp only[mT,dec,List.foldl_cons,dy]at*;rw[a,b,fy,fM,jx,eW,cT 10 n,gn,cT 10,j3]
def Ry(n:Nat)(s:S)(c:UInt8):mT n (s++[c])=10*mT n s+(c.toNat - 48):=by simp[mT]
def EG(a b:S):dec (a++b)=dec a*10 ^ b.length+dec b:=by
 have:dec (a++b)=mT (dec a) b:=by simp[dec,mT]
 rw[this,afI]
def dec_lt{s:S}(h:∀c∈s,fP c=true):dec s<10 ^ s.length:=by
 induction s with
 | nil=>simp[dec,mT]
 | cons c l ih=>
  have e:dec (c::l)=(c.toNat - 48)*10 ^ l.length+dec l:=by have:=EG [c] l;simpa[dec,mT]using this
  have h1:=ih λx a=>h x (by simp[a]);have h2:=h c (by simp);simp only[fP,aK,aW]at h2;have b:(c.toNat - 48)*10 ^ l.length<=9*10 ^ l.length:=fJ _ (by omega);rw[e,dy,fy];omega
def cutAt:S->Option (S×S)
 | []=>none
 | c::l=>if c.toNat=47 then some ([],l) else match cutAt l with
  | some (p,q)=>some (c::p,q)
  | none=>none
def gi(s:S):Bool:=s.any λc=>decide (c.toNat=47)
def jU(s:S):Option (S×S):=
 match cutAt s with
 | some (p,q)=>if gi q then none else some (p,q)
 | none=>none
def Jg{s:S}(h:gi s=false):cutAt s=none:=by
 induction s with
 | nil=>rfl
 | cons c l ih=>
  simp only[gi,List.any_cons,zV,cg]at h;simp only[cutAt,h.1,if_false];rw[ih h.2]
def Jh:∀{s:S} {i:Nat} (hi:i<s.length),gi (s.take i)=false->s[i].toNat=47->cutAt s=some (s.take i,s.drop (i+1)):=by
 intro s
 induction s with
 | nil=>intro i hi;simp at hi
 | cons c l ih=>
  intro i hi h1 h2;cases i with
  | zero=>simp at h2;simp[cutAt,h2]
  | succ i=>
   simp only[mD,gi,List.any_cons,zV,cg]at h1;simp only[pb]at h2;simp only[cutAt,h1.1,if_false];rw[ih (by simpa using hi) h1.2 h2];simp
def afJ{s:S}{i:Nat}(hi:i<s.length):gi (s.take (i+1))=(gi (s.take i)||decide (s[i].toNat=47)):=by unfold gi;rw[fL hi,List.any_append];simp only[List.any_cons,List.any_nil,Bool.or_false]
def Rz(a b:S):gi (a++b)=(gi a||gi b):=by simp[gi]
def RA{s p q:S}(h:cutAt s=some (p,q)):p.length+q.length+1=s.length:=by
 induction s generalizing p q with
 | nil=>cases h
 | cons c l ih=>
  simp only[cutAt]at h;split at h
  ·cases h;simp
  ·split at h
   ·rename_i a b h';cases h;have:=ih h';simp;omega
   ·cases h
def afK{s p q:S}(h:jU s=some (p,q)):p.length<s.length/\q.length<s.length:=by
 unfold jU at h;split at h
 ·rename_i a b h';split at h
  ·cases h
  ·cases h;have:=RA h';omega
 ·cases h
def lS(s:S):Int:=
 match jU s with
 | none=>1
 | some (p,q)=>if fm p≠0 then fm p else if fm q≠0 then fm q else
  if isNeg q=true\/dec (body q)=0\/Nat.gcd (dec (body p)) (dec (body q))≠1 then 1 else 0
def Ji{s:S}(h:gV s=true):dec (body s)=0↔s=[48]:=by
 constructor
 ·intro a;obtain⟨h1,h2⟩:=Bm h;simp only[gV,aK,ov,cg,Bool.and_eq_false_imp,aW]at h;obtain⟨_,i,j,_⟩:=h;have key:∀b:S,b≠[]->(∀c∈b,fP c=true)->(1<b.length->¬ oe b=48)->dec b=0->b=[48]:=by
   intro b hb f h1 a;cases b with
   | nil=>exact absurd rfl hb
   | cons c l=>
    have e:dec (c::l)=(c.toNat - 48)*10 ^ l.length+dec l:=by have:=EG [c] l;simpa[dec,mT]using this
    rw[e]at a;have hp:0<10 ^ l.length:=Nat.pow_pos (by omega);have k:=f c (by simp);simp only[fP,aK,aW]at k;have g:c.toNat=48:=by
     by_cases h:c.toNat - 48=0
     ·omega
     ·have:1*10 ^ l.length<=(c.toNat - 48)*10 ^ l.length:=fJ _ (by omega);omega
    cases l with
    | nil=>rw[show c=48 from UInt8.toNat_inj.1 g]
    | cons d l=>exact absurd g (h1 (by simp))
  have hb:=key (body s) h2 h1 j a;cases s with
  | nil=>cases hb
  | cons c l=>
   simp only[body]at hb;split at hb
   ·rename_i f;subst hb;have:c=45:=UInt8.toNat_inj.1 f;subst this;exact absurd rfl i
   ·exact hb
 ·rintro rfl;rfl
end Go.Ev.X
namespace Go.Ev.X
section
section
variable {B:Nat}
def Bp(x P:Nat)(hP:0<P):x / P*P<=x/\x<(x / P+1)*P:=by refine⟨Nat.div_mul_le_self x P,?_⟩;have:=tY x P;have h2:=j4 x hP;rw[fM,Nat.one_mul,cT];omega
def afL{b r:List Nat}{size:Nat}(hB:2<=B)(hb:Sm B b)(hl:b.length=size)(h2:2<=size)(kg:B<=2*b.getD (size - 1) 0)(a:Sm B r)(hR:val B r<B*val B b):
 Dg B (val B r) (val B b) (r.getD size 0*B+r.getD (size - 1) 0) (r.getD (size - 2) 0) (b.getD (size - 1) 0) (b.getD (size - 2) 0) (B ^ (size - 2)):=by
 have hP:0<B ^ (size - 2):=Nat.pow_pos (by omega);have d:size - 2+1=size - 1:=by omega
 have e:size - 1+1=size:=by omega
 have vb:val B b / B ^ (size - 2)=b.getD (size - 1) 0*B+b.getD (size - 2) 0:=by rw[yz hb (by omega),uH,d,uH,e,oo (by omega)];simp only[val,jx,hJ];rw[cT B,nF]
 have vr:val B r / B ^ (size - 2)=(r.getD size 0*B+r.getD (size - 1) 0)*B+r.getD (size - 2) 0:=by
  have h0:val B (r.drop (size+1))=0:=by rw[←yz a (by omega)];apply Nat.div_eq_of_lt;have f:=nT hb;rw[hl]at f;have:B*val B b<B*B ^ size:=Ds f (by omega);rw[fy,cT (B ^ size)];omega
  rw[yz a (by omega),uH,d,uH,e,uH,h0];simp only[jx,hJ];generalize r.getD size 0=x;generalize r.getD (size - 1) 0=y;generalize r.getD (size - 2) 0=z;rw[cT B (y+B*x),cT B x,nF y,nF z]
 have s1:=Bp (val B r) _ hP;have c:=Bp (val B b) _ hP;rw[vr]at s1;rw[vb]at c;exact⟨hB,hR,s1.1,s1.2,c.1,c.2,a.getD (by omega) _,hb.getD (by omega) _,kg,hP⟩
def RB{b:List Nat}{size:Nat}(hB:2<=B)(hb:Sm B b)(hl:b.length=size)(h2:2<=size)(kg:0<b.getD (size - 1) 0):B ^ (size - 2)*B<=val B b:=by
 have hP:0<B ^ (size - 1):=Nat.pow_pos (by omega);have e:val B b / B ^ (size - 1)=b.getD (size - 1) 0:=by rw[yz hb (by omega),uH,show size - 1+1=size by omega,oo (by omega)];simp[val]
 have s:=(Bp (val B b) _ hP).1;rw[e]at s;rw[←fy,show(size - 2).succ=size - 1 by omega];have:1*B ^ (size - 1)<=b.getD (size - 1) 0*B ^ (size - 1):=fJ _ kg;omega
def afM{b below:List Nat}{H s:Nat}(hB:B=2*H)(t:1<=H)(hb:dC B b)(h1:1<=b.length)(hs:s=B / (b.getD (b.length - 1) 0+1))(c:dC B below)(hv:val B below=val B b*s):
 below.length=b.length/\B<=2*below.getD (b.length - 1) 0/\1<=s/\s<B:=by
 have u:2<=B:=by omega
 have w:b.getD (b.length - 1) 0<B:=hb.1.getD (by omega) _;have g:b≠[]:=λe=>by rw[e]at h1;simp at h1
 have i:0<b.getD (b.length - 1) 0:=by have:=hb.2 g;rw[List.getLast_eq_getElem]at this;rw[dH,df (by omega)];exact tV this
 have hP:0<B ^ (b.length - 1):=Nat.pow_pos (by omega);have ev:val B b / B ^ (b.length - 1)=b.getD (b.length - 1) 0:=by rw[yz hb.1 (by omega),uH,show b.length - 1+1=b.length by omega,oo (by omega)];simp[val]
 have sp:=Bp (val B b) _ hP;rw[ev]at sp;generalize z:b.getD (b.length - 1) 0=v at*;have s1:1<=s:=by rw[hs];exact(Nat.le_div_iff_mul_le (by omega)).2 (by omega)
 have j:s*(v+1)<=B:=by rw[hs];exact Nat.div_mul_le_self _ _
 have A:B<(s+1)*(v+1):=by have:=(Bp B (v+1) (by omega)).2;rw[←hs]at this;exact this
 have k:s<B:=by have:s*2<=s*(v+1):=pa _ (by omega);omega
 have l:B*B ^ (b.length - 1)=B ^ b.length:=by rw[cT,←fy,show(b.length - 1).succ=b.length by omega]
 have d:val B below<B ^ b.length:=by
  rw[hv,←l];have C:val B b*s<(v+1)*B ^ (b.length - 1)*s:=Nat.mul_lt_mul_of_pos_right sp.2 (by omega);have D:(v+1)*B ^ (b.length - 1)*s=s*(v+1)*B ^ (b.length - 1):=by rw[cT _ s,gn]
  have E:s*(v+1)*B ^ (b.length - 1)<=B*B ^ (b.length - 1):=fJ _ j;omega
 have m:s*v*B ^ (b.length - 1)<=val B below:=by rw[hv,cT (val B b),gn];exact pa _ sp.1
 have n:1<=s*v:=Nat.mul_pos s1 i;have hlen:below.length=b.length:=by
  have l1:below.length<=b.length:=by
   by_cases f:below=[]
   ·rw[f];simp
   ·have:=EF (B:=B) c.2 (by omega) f;have:=(Nat.pow_lt_pow_iff_right (a:=B) (by omega)).1 (Nat.lt_of_le_of_lt this d);omega
  have l2:b.length - 1<below.length:=by have:=nT c.1;have o:1*B ^ (b.length - 1)<=s*v*B ^ (b.length - 1):=fJ _ n;exact(Nat.pow_lt_pow_iff_right (a:=B) (by omega)).1 (by omega)
  omega
 refine⟨hlen,?_,s1,k⟩;have p:val B below / B ^ (b.length - 1)=below.getD (b.length - 1) 0:=by rw[yz c.1 (by omega),uH,show b.length - 1+1=b.length by omega,oo (by omega)];simp[val]
 have ht:s*v<=below.getD (b.length - 1) 0:=by rw[←p];exact(Nat.le_div_iff_mul_le hP).2 m
 have F:H<=s*v:=by
  by_cases G:H<=v
  ·have:1*v<=s*v:=fJ _ s1;omega
  ·rcases iG (s*v) H with d | h
   ·exfalso;have I:(s+1)*(v+1)=s*v+s+v+1:=by rw[eV,fM];omega
    have q:H+1 - v<=s:=by omega
    have o:(H+1 - v)*v<=s*v:=fJ _ q;obtain⟨x,J⟩:∃x,H - v=x:=⟨_,rfl⟩;obtain⟨y,r⟩:∃y,v=y+1:=⟨v - 1,by omega⟩;have K:(H+1 - v)*v=x*y+x+y+1:=by rw[show H+1 - v=x+1 by omega,r,eV,fM];omega
    have:0<=x*y:=pN _;omega
   ·exact h
 omega
end
end
end Go.Ev.X
namespace Go.Ev.X
open Go Go.Ev
attribute [local irreducible] WC WO WD SO ν
section
variable {C:Nat->Option aI}{h:Hf}{n:K}{Q:V->Hf->K->Prop}
def mU{g:Nat}(d:C g=some (.go f42)){x:Bool}{e:Int}(c:Q (.i .i64 (if x then e else 0)) h n):ν C (.f g [] []) [.b x,.i .i64 e] h n Q:=by
 refine ν.go d rfl ?_;refine ε<|γ U<|δ ?_;refine θ<|ε<|γ U<|δ ?_;refine cm U (λa=>?_) (λa=>?_)
 ·refine ε<|γ U<|γ U<|δ (Γ ⟨_,rfl,by subst a;exact c⟩)
 ·refine Ω ?_;refine ε<|γ U<|δ (Γ ⟨_,rfl,by subst a;exact c⟩)
def zq{g:Nat}(c:C g=some (.go f56)){op:Int}(a:Q (.b (decide (op=17\/op=18))) h n):ν C (.f g [] []) [.i .i64 op] h n Q:=by
 refine ν.go c rfl ?_;refine ε<|γ U<|δ ?_;by_cases h1:op=17
 ·refine ε<|γ U<|aS U U<|γ U<|μ U (by simp[h1])<|μ U (by simp[h1])<|aU U (by simp[h1]) U<|γ U<|δ (Γ ⟨_,rfl,by simpa[h1]using a⟩)
 ·refine ε<|γ U<|aS U U<|γ U<|ζ U (by simp[h1])<|γ U<|ζ U (by simp[h1])<|aS U U<|aL U (by simp[h1]) U<|γ U<|δ (Γ ⟨_,rfl,by simpa[h1]using a⟩)
def et:List Int->Int
 | []=>0
 | a::l=>if a=0 then et l else a
def RC{l:List Int}{i:Nat}(hi:i<l.length):et (l.drop i)=if l[i]=0 then et (l.drop (i+1)) else l[i]:=by rw[eo hi,et]
def afO{v:V}{l:List Int}{ik:IntKind}(hv:da h n .i64 v l)(hlen:l.length<1000000):∀(m i:Nat),l.length - i=m->i<=l.length->(Q (.i .i64 (et (l.drop i))) h n)->WC C abg [(k5,v),(k6,iN l.length),(k7,iN i),(k2,.i .i64 0)] h n (blk 0 (sq C abh (fq [.t k2] Q))):=by
 intro m
 induction m with
 | zero=>
  intro i hm hi a;refine ax ?_;refine ε<|ay U U<|δ ?_;refine θ<|ae U (by simp;omega)<|aJ ?_;have:i=l.length:=by omega
  subst this;refine ε<|γ U<|δ (Γ ⟨_,rfl,by simpa[et]using a⟩)
 | succ m ih=>
  intro i hm hi a;have c:i<l.length:=by omega
  refine ax ?_;refine ε<|ay U U<|δ ?_;refine θ<|ah U (by simp;omega)<|Ω ?_;refine θ<|aj<|ε<|aB U U hv c<|ξ U (hv.get c _)<|γ U<|δ ?_;refine ε<|γ U<|dR U U<|δ ?_;rw[RC c]at a;refine cm U (λb=>?_) (λb=>?_)
  ·refine ε<|γ U<|γ U<|δ (Γ ⟨_,rfl,by simp at b;rw[Θ b]at a;exact a⟩)
  ·refine Ω ?_;simp at b;rw[ao b]at a;refine aA<|aX U U ⟨by omega,by omega⟩<|γ U<|δ ?_;exact χ (ih (i+1) (by omega) (by omega) a) (ρ.rf U)
def Bq{g:Nat}(a:C g=some (.go f41)){v:V}{l:List Int}(hv:da h n .i64 v l)(hlen:l.length<1000000)(b:Q (.i .i64 (et l)) h n):ν C (.f g [] []) [v] h n Q:=by refine ν.go a rfl ?_;refine ε<|γ U<|δ ?_;refine θ<|ε<|γ U<|al U hv<|γ U<|δ ?_;exact aj (χ (afO (ik:=.i64) hv hlen _ 0 rfl (by omega) b) (ρ.rf U))
def afP{v:V}{l:List Int}(hv:da h n .i64 v l)(hlen:l.length<1000000):∀(m i:Nat),l.length - i=m->i<=l.length->(Q (.i .i64 (et (l.drop i))) h n)->WC C abS [(k0,v),(k3,iN i),(k2,.i .i64 0)] h n (blk 0 (sq C abT (fq [.t k2] Q))):=by
 intro m
 induction m with
 | zero=>
  intro i hm hi a;refine ax ?_;refine θ<|ε<|γ U<|γ U<|al U hv<|ay U U<|δ ?_;refine ae U (by simp;omega)<|aJ ?_;have:i=l.length:=by omega
  subst this;refine ε<|γ U<|δ (Γ ⟨_,rfl,by simpa[et]using a⟩)
 | succ m ih=>
  intro i hm hi a;have b:i<l.length:=by omega
  refine ax ?_;refine θ<|ε<|γ U<|γ U<|al U hv<|ay U U<|δ ?_;refine ah U (by simp;omega)<|Ω ?_;refine θ<|aj<|ε<|γ U<|γ U<|aB U U hv b<|ξ U (hv.get b _)<|dR U U<|δ ?_;rw[RC b]at a;refine cm U (λc=>?_) (λc=>?_)
  ·refine ε<|γ U<|γ U<|aB U U hv b<|ξ U (hv.get b _)<|γ U<|δ (Γ ⟨_,rfl,by simp at c;rw[Θ c]at a;exact a⟩)
  ·refine Ω ?_;simp at c;rw[ao c]at a;refine aA<|γ U<|aX U U ⟨by omega,by omega⟩<|γ U<|δ ?_;exact χ (ih (i+1) (by omega) (by omega) a) (ρ.rf U)
def zt{g:Nat}(a:C g=some (.go f48)){v:V}{l:List Int}(hv:da h n .i64 v l)(hlen:l.length<1000000)(b:Q (.i .i64 (et l)) h n):ν C (.f g [] []) [v] h n Q:=by refine ν.go a rfl ?_;refine ε<|γ U<|δ ?_;refine θ<|ε<|γ U<|δ ?_;exact aj (χ (afP hv hlen _ 0 rfl (by omega) b) (ρ.rf U))
end
section
variable {C:Nat->Option aI}{h:Hf}{n:K}{Q:V->Hf->K->Prop}
def jV(h:Hf)(n:K)(v:V)(ts:List Nd)(m:List (V×V)):Prop:=
 ∃hm:m.length=ts.length,κ h n 5 v ts.length (ca ts m)/\∀i (hi:i<ts.length),du h n (m[i]'(by omega)).1 ts[i].vars/\da h n .i64 (m[i]'(by omega)).2 ts[i].kids
def jV.ext{v:V}{ts:List Nd}{m:List (V×V)}{h':Hf}{n':K}(a:jV h n v ts m)(e:Ext h n h' n'):jV h' n' v ts m:=by obtain⟨hm,h1,h2⟩:=a;exact⟨hm,h1.ext e,λi hi=>⟨(h2 i hi).1.ext e,(h2 i hi).2.ext e⟩⟩
def jV.row{v:V}{ts:List Nd}{m:List (V×V)}(a:jV h n v ts m){i:Nat}(hi:i<ts.length):
 ∃vv kv,((ca ts m).drop (i*5)).take 5=bW ts[i] vv kv/\du h n vv ts[i].vars/\da h n .i64 kv ts[i].kids:=by
 obtain⟨hm,h1,h2⟩:=a;exact⟨_,_,sF hm hi,(h2 i hi).1,(h2 i hi).2⟩
def aZ.get{v:V}{ts:List Nd}(a:aZ h n v ts):∃m,jV h n v ts m:=a
def zu(ts:List Nd)(m:List (V×V)):List (List V):=
 (List.range ts.length).map λi=>[.a (((ca ts m).drop (i*5)).take 5++[iN i])]
def pD(ts:List Nd)(m:List (V×V)):(zu ts m).length=ts.length:=by simp[zu]
def qp(ts:List Nd)(m:List (V×V)){i:Nat}(hi:i<(zu ts m).length):(zu ts m)[i]=[.a (((ca ts m).drop (i*5)).take 5++[iN i])]:=by simp[zu]
def cj{cs l:List V}{sz:Nat}(h1:cs.length=sz)(h2:cs.length=l.length)(b:aD cs=true):ju l 0 0 sz (.a cs)=some cs:=by simp only[ju,V.cells,h1,b,cL];rw[O6 _ _ h2,cB];simp[Nat.ble]
def afQ{cs:List V}(hl:cs.length=5)(f:aD cs=true){E:Env}{k1 k2:K}{i:Int}(h1:lk E k1=some (.a cs))(h2:lk E k2=some (.i .i64 i)):
 gq E [.i .i64 0,.s 0 0,.s 0 0,.ns,.ns,.i .i64 0] [(0,5,.t k1),(5,1,.t k2)]=some (cs++[.i .i64 i]):=by
 match cs,hl with
 | [a,b,c,d,e],_=>
  simp only[gq,ge,h1,h2,V.cells,dy,jy,f,Nat.beq,hK,cond_true,cL,over,aD,V.one];rfl
def afR(q:Cd C){t:V}{ts:List Nd}{m:List (V×V)}{b:K}{e fz:Nat}(hlen:ts.length<1000000):
 Iter C (.f 165 [] [.p b 0]) (λh n=>b.num<n.num/\h b=some (.c [t] e fz)/\jV h n t ts m) (zu ts m):=by
 intro y I D h n s j hS h0;refine ν.go q.f165 U ?_;obtain⟨hb,k,hm,ht,_⟩:=j _ _ _ h0;refine ε<|ξ U (cE k rfl _)<|al U ht<|γ U<|δ ?_;refine aj ?_;have key:∀(r i:Nat) (h:Hf) (n:K),ts.length - i=r->i<=ts.length->I i h n->WC C abj [(k0,y),(k5,t),(k6,iN ts.length),(k7,iN i)] h n (blk 0 (fq [] (λv h' n'=>I (zu ts m).length h' n'\/D h' n'))):=by
  intro r
  induction r with
  | zero=>
   intro i h n u hi hI;have:i=ts.length:=by omega
   subst this;refine ax ?_;refine ε<|ay U U<|δ ?_;refine θ<|ae U (by simp)<|aJ ⟨_,rfl,?_⟩;rw[pD];exact Or.inl hI
  | succ r ih=>
   intro i h n u hi hI;have a:i<ts.length:=by omega
   obtain⟨hb,k,hm,ht,l⟩:=j _ _ _ hI;have o:aD (((ca ts m).drop (i*5)).take 5)=true:=by rw[sF hm a];have h1:=κ.one (l i a).1;have h2:=κ.one (l i a).2;simp only[bW,aD,h1,h2,Bool.and_true];rfl
   have d:(((ca ts m).drop (i*5)).take 5).length=5:=by simp[sD hm];omega
   refine ax ?_;refine ε<|ay U U<|δ ?_;refine θ<|ah U (by simp;omega)<|Ω ?_;refine θ<|aj<|ε<|γ U<|aB U U ht a<|ξ U (ht.jP (by omega) (by omega))<|bA <| λh1 n1 G w x=>γ U<|aH U U w (cj d d o) <| λh2 z b2=>δ ?_;have A:Ext h n h2 n1:=x.ab b2 (φ _);refine ε<|γ U<|ξ U (bc z (iL d))<|γ U<|ji (afQ d o rfl rfl)<|ψ U U ?_;have B:i<(zu ts m).length:=by rw[pD];exact a
   have:=hS i B h2 n1 (s _ _ _ _ _ hI A);rw[qp]at this;refine ν.mono this ?_;rintro v E F (⟨rfl,g⟩ | ⟨rfl,g⟩)
   ·refine bZ U<|δ<|ae U U<|Ω ?_;refine aA<|aX U U ⟨by omega,by omega⟩<|γ U<|δ ?_;exact χ (ih (i+1) E F (by omega) (by omega) g) (ρ.rf U)
   ·refine bZ U<|δ<|ah U U<|Γ ⟨_,rfl,Or.inr g⟩
 exact χ (key _ 0 h n rfl (by omega) h0) (ρ.rf U)
def Jk(a:Cd C){t:V}{ts:List Nd}{m:List (V×V)}(hm:jV h n t ts m)(hlen:ts.length<1000000)
 (d:∀b e h' n',Ext h n h' n'->h' b=some (.c [t] e 0)->b.num<n'.num->n.num<=b.num->Iter C (.f 165 [] [.p b 0]) (λh n=>b.num<n.num/\h b=some (.c [t] e 0)/\jV h n t ts m) (zu ts m)->Q (.f 165 [] [.p b 0]) h' n'):ν C (.f 82 [] []) [t] h n Q:=by
 have h1:=hm.2.1.one;refine ν.go a.f82 U ?_;refine ε<|cR U hm.2.1.cells (by simp only[aD,h1];rfl) <| λh1 n1 j g i=>γ U<|δ ?_;refine ε<|rC U U<|γ U<|δ (Γ ⟨_,rfl,d n 23 h1 n1 i g (by omega) (φ _) (afR a hlen)⟩)
def wF(val:Nat->V)(len:Nat):List (List V):=(List.range len).map λi=>[.i .i64 ((len - 1 - i:Nat):Int),val (len - 1 - i)]
def qs(val:Nat->V)(len:Nat):(wF val len).length=len:=by simp[wF]
def sQ(val:Nat->V)(len:Nat){i:Nat}(hi:i<(wF val len).length):(wF val len)[i]=[.i .i64 ((len - 1 - i:Nat):Int),val (len - 1 - i)]:=by simp[wF]
def RD{g:Nat}(d:C g=some (.go f245)){t:V}{len:Nat}{cs:List V}{val:Nat->V}{b:K}{e fz:Nat}(hlen:len<1000000)(l:∀i,i<len->nth cs i=some (val i)):
 Iter C (.f g [] [.p b 0]) (λh n=>b.num<n.num/\h b=some (.c [t] e fz)/\κ h n 1 t len cs) (wF val len):=by
 intro y I D h n s k hS h0;refine ν.go d rfl ?_;obtain⟨hb,j,ht⟩:=k _ _ _ h0;refine ε<|ξ U (cE j rfl _)<|al U ht<|gG U U ⟨by omega,by omega⟩<|γ U<|δ ?_;refine aj ?_;have key:∀(i:Nat) (h:Hf) (n:K),i<=len->I (len - i) h n->WC C abk [(k0,y),(k1,.p b 0),(k3,.i .i64 ((i:Int) - 1))] h n (blk 0 (fq [] (λv h' n'=>I (wF val len).length h' n'\/D h' n'))):=by
  intro i
  induction i with
  | zero=>
   intro h n hi hI;refine ax ?_;refine θ<|ε<|γ U<|dj U U<|δ ?_;refine ae U (by simp)<|aJ ⟨_,rfl,?_⟩;rw[qs];exact Or.inl hI
  | succ i ih=>
   intro h n hi hI;obtain⟨hb,j,ht⟩:=k _ _ _ hI;have m:((i+1:Nat):Int) - 1=(i:Int):=by omega
   rw[m];refine ax ?_;refine θ<|ε<|γ U<|dj U U<|δ ?_;refine ah U (by simp)<|Ω ?_;have d:bj h false 1 (.p t.blk (t.off+i*1))=some (val i):=by rw[jz];exact ht.get (l i (by omega)) _
   refine θ<|aj<|ε<|γ U<|γ U<|ξ U (cE j rfl _)<|γ U<|aB U U ht (by omega)<|ξ U d<|ψ U U ?_;have o:len - (i+1)<(wF val len).length:=by rw[qs];omega
   have:=hS _ o h n hI;rw[sQ,show len - 1 - (len - (i+1))=i by omega]at this;refine ν.mono this ?_;rintro v q r (⟨rfl,a⟩ | ⟨rfl,a⟩)
   ·refine bZ U<|δ<|ae U U<|Ω ?_;refine aA<|γ U<|gG U U ⟨by omega,by omega⟩<|γ U<|δ ?_;rw[show len - (i+1)+1=len - i by omega]at a;exact χ (ih q r (by omega) a) (ρ.rf U)
   ·refine bZ U<|δ<|ah U U<|Γ ⟨_,rfl,Or.inr a⟩
 exact χ (key len h n (by omega) (by rw[lL];exact h0)) (ρ.rf U)
def afS(a:Cd C){t:V}{ik:IntKind}{l:List Int}(ht:da h n ik t l)(hlen:l.length<1000000)(val:Nat->V)(d:∀i (hi:i<l.length),val i=.i ik l[i])
 (g:∀b e h' n',Ext h n h' n'->h' b=some (.c [t] e 0)->b.num<n'.num->n.num<=b.num->Iter C (.f 245 [] [.p b 0]) (λh n=>b.num<n.num/\h b=some (.c [t] e 0)/\da h n ik t l) (wF val l.length)->Q (.f 245 [] [.p b 0]) h' n'):ν C (.f 186 [] []) [t] h n Q:=by
 have h1:=κ.one ht;refine ν.go a.f186 U ?_;refine ε<|cR U (κ.cells ht) (by simp only[aD,h1];rfl) <| λh1 n1 m j k=>γ U<|δ ?_;refine ε<|rC U U<|γ U<|δ (Γ ⟨_,rfl,g n 85 h1 n1 k j (by omega) (φ _) (RD a.f245 hlen (λi hi=>by rw[d i hi];exact D7 ik hi))⟩)
def afT(a:Cd C){t:V}{ik:IntKind}{l:List Int}(ht:da h n ik t l)(hlen:l.length<1000000)(val:Nat->V)(d:∀i (hi:i<l.length),val i=.i ik l[i])
 (g:∀b e h' n',Ext h n h' n'->h' b=some (.c [t] e 0)->b.num<n'.num->n.num<=b.num->Iter C (.f 349 [] [.p b 0]) (λh n=>b.num<n.num/\h b=some (.c [t] e 0)/\da h n ik t l) (wF val l.length)->Q (.f 349 [] [.p b 0]) h' n'):ν C (.f 330 [] []) [t] h n Q:=by
 have h1:=κ.one ht;refine ν.go a.f330 U ?_;refine ε<|cR U (κ.cells ht) (by simp only[aD,h1];rfl) <| λh1 n1 m j k=>γ U<|δ ?_;refine ε<|rC U U<|γ U<|δ (Γ ⟨_,rfl,g n 295 h1 n1 k j (by omega) (φ _) (RD a.f349 hlen (λi hi=>by rw[d i hi];exact D7 ik hi))⟩)
end
section
variable {C:Nat->Option aI}{h:Hf}{n:K}{Q:V->Hf->K->Prop}
def eh(f:Nat->Nat):List Int->Int->Bool
 | [],_=>true
 | k::l,next=>if k<0\/k≠next - 1 then false else eh f l (f k.toNat)
def fT(ts:List Nd)(i:Nat):List Int:=match ts[i]? with | some x=>x.kids | none=>[]
def qt(ts:List Nd)(l:List Nat)(i:Nat):Nat:=
 match fT ts i with
 | []=>i
 | k::ks=>if eh (λj=>l.getD j 0) (k::ks).reverse i then l.getD k.toNat 0 else i
def fl(ts:List Nd):Nat->List Nat
 | 0=>[]
 | i+1=>fl ts i++[qt ts (fl ts i) i]
def fs(ts:List Nd)(i:Nat):Nat:=(fl ts (i+1)).getD i 0
def kY(ts:List Nd)(m:Nat):(fl ts m).length=m:=by induction m<;>simp_all [fl]
def EI(ts:List Nd){i:Nat}:∀{m:Nat},i<m->(fl ts m).getD i 0=fs ts i:=by
 intro m
 induction m with
 | zero=>intro h;omega
 | succ m ih=>
  intro h;by_cases hm:i<m
  ·rw[←ih hm,fl];simp[dH,qW (show i<(fl ts m).length by rw[kY];exact hm)]
  ·have:i=m:=by omega
   subst this;rfl
def RE{f g:Nat->Nat}:∀{l:List Int} {next:Int},(∀j:Nat,(j:Int)<next->f j=g j/\(f j:Int)<=j)->eh f l next=eh g l next:=by
 intro l
 induction l with
 | nil=>intro next _;rfl
 | cons k l ih=>
  intro next h;simp only[eh];by_cases a:k<0\/k≠next - 1
  ·simp[a]
  ·simp only[a,if_false];have h1:=h k.toNat (by omega);rw[←h1.1];exact ih (λj hj=>h j (by omega))
def EJ(ts:List Nd):∀{m i:Nat},(fl ts m).getD i 0<=i:=by
 intro m
 induction m with
 | zero=>intro i;simp[fl]
 | succ m ih=>
  intro i;by_cases hm:i<m
  ·rw[fl,dH,qW (by rw[kY];exact hm),←dH];exact ih
  ·by_cases hi:i=m
   ·subst hi;have:(fl ts (i+1)).getD i 0=qt ts (fl ts i) i:=by
     rw[fl,dH,tU (by rw[kY];exact φ _),kY];simp
    rw[this];unfold qt;split
    ·exact φ _
    ·rename_i k ks e;split
     ·rename_i b;have key:∀(l:List Int) (next:Int),eh (λj=>(fl ts i).getD j 0) l next=true->∀k∈l,k<next/\0<=k:=by
       intro l
       induction l with
       | nil=>intro next _ k c;cases c
       | cons a l d=>
        intro next b k c;simp only[eh]at b;split at b
        ·cases b
        ·rename_i f;cases c with
         | head=>omega
         | tail _ c=>
          have:=d _ b k c;have h2:((fl ts i).getD a.toNat 0)<=a.toNat:=ih;omega
      have:=key _ _ b k (by simp);have h2:((fl ts i).getD k.toNat 0)<=k.toNat:=ih;omega
     ·exact φ _
   ·rw[dH,qY (by rw[kY];omega)];simp
def nW(ts:List Nd)(i:Nat):fs ts i<=i:=EJ ts
def ord(ts:List Nd)(i:Nat):Bool:=eh (fs ts) (fT ts i).reverse i
def EL(ts:List Nd)(i:Nat){m:Nat}(hm:i<=m):eh (λj=>(fl ts m).getD j 0) (fT ts i).reverse i=ord ts i:=
 RE λj hj=>⟨EI ts (by omega),by have:=EJ ts (m:=m) (i:=j);omega⟩
def RF(ts:List Nd)(i:Nat):fs ts i=match fT ts i with | []=>i | k::_=>if ord ts i then fs ts k.toNat else i:=by
 have h1:fs ts i=qt ts (fl ts i) i:=by unfold fs;rw[fl,dH,tU (by rw[kY];exact φ _),kY];simp
 rw[h1];unfold qt;split
 ·rfl
 ·rename_i k ks b;have:=EL ts i (φ i);rw[b]at this;rw[this];by_cases c:ord ts i=true
  ·simp only[c,if_true];have d:k.toNat<i:=by
    have key:∀(l:List Int) (next:Int),eh (fs ts) l next=true->∀k∈l,k<next/\0<=k:=by
     intro l
     induction l with
     | nil=>intro next _ k b;cases b
     | cons a l e=>
      intro next c k b;simp only[eh]at c;split at c
      ·cases c
      ·rename_i f;cases b with
       | head=>omega
       | tail _ b=>have:=e _ c k b;have:=nW ts a.toNat;omega
    have:=key _ _ c k (by rw[b];simp);omega
   exact EI ts d
  ·simp only[c];rfl
def afU(ts:List Nd):∀(l:List Int) (next:Int),eh (fs ts) l next=true->∀k∈l,k<next/\0<=k:=by
 intro l
 induction l with
 | nil=>intro next _ k b;cases b
 | cons a l d=>
  intro next c k b;simp only[eh]at c;split at c
  ·cases c
  ·rename_i e;cases b with
   | head=>omega
   | tail _ b=>have:=d _ c k b;have:=nW ts a.toNat;omega
def oI{ts:List Nd}{i:Nat}(a:ord ts i=true):∀k∈fT ts i,k<i/\0<=k:=λk b=>afU ts _ _ a k (by simpa using b)
def jj{ts:List Nd}{i:Nat}(hi:i<ts.length):fT ts i=ts[i].kids:=by simp[fT,hi]
def afV{t:V}{ts:List Nd}(ht:aZ h n t ts)(hlen:ts.length<1000000):∀(r i:Nat),i<=r->i<ts.length->(∀j,j<=i->ord ts j=true)->Q (.i .i64 (fs ts i:Nat)) h n->WC C abl [(k0,t),(k1,iN i)] h n (blk 0 (sq C abm (fq [.t k4] Q))):=by
 intro r
 induction r with
 | zero=>
  intro i g hi d a;have:i=0:=by omega
  subst this;obtain⟨cs,hs⟩:=ht.sl;obtain⟨vv,kv,b⟩:=ht.node hi;have c:ts[0].kids=[]:=by
   have:=oI (d 0 (φ 0));rw[jj hi]at this;cases c:ts[0].kids with
   | nil=>rfl
   | cons k ks=>have:=this k (by rw[c];simp);omega
  have hf:fs ts 0=0:=by have:=nW ts 0;omega
  refine ax ?_;refine θ<|ε<|γ U<|γ U<|aB U U hs hi<|σ U<|ξ U (b.ks _)<|al U b.kids<|bC U U<|δ ?_;refine ae U (by simp[c])<|aJ ?_;refine ε<|γ U<|γ U<|δ (Γ ⟨_,rfl,by rw[hf]at a;exact a⟩)
 | succ r ih=>
  intro i g hi d a;obtain⟨cs,hs⟩:=ht.sl;obtain⟨vv,kv,b⟩:=ht.node hi;refine ax ?_;refine θ<|ε<|γ U<|γ U<|aB U U hs hi<|σ U<|ξ U (b.ks _)<|al U b.kids<|bC U U<|δ ?_;rw[RF,jj hi,d i (φ i)]at a;have e:=oI (d i (φ i));rw[jj hi]at e;cases c:ts[i].kids with
  | nil=>
   rw[c]at a;refine ae U (by simp)<|aJ ?_;refine ε<|γ U<|γ U<|δ (Γ ⟨_,rfl,a⟩)
  | cons k ks=>
   rw[c]at a e;have m:=e k (by simp);have h0:0<ts[i].kids.length:=by rw[c];simp
   have f:=b.kids.get h0 1;simp only[c,nz]at f;refine ah U (by simp)<|Ω ?_;have l:k=((k.toNat:Nat):Int):=by omega
   refine aj<|aA<|γ U<|γ U<|aB U U hs hi<|σ U<|ξ U (b.ks _)<|aB U U b.kids h0<|ξ U f<|γ U<|δ ?_;rw[l];exact χ (ih k.toNat (by omega) (by omega) (λj hj=>d j (by omega)) (by simpa using a)) (ρ.rf U)
def Jn{g:Nat}(a:C g=some (.go f102)){t:V}{ts:List Nd}{i:Nat}(ht:aZ h n t ts)(hlen:ts.length<1000000)(hi:i<ts.length)(b:∀j,j<=i->ord ts j=true)(c:Q (.i .i64 (fs ts i:Nat)) h n):
 ν C (.f g [] []) [t,iN i] h n Q:=by
 refine ν.go a rfl ?_;refine ε<|γ U<|δ ?_;exact θ<|aj<|χ (afV ht hlen i i (φ i) hi b c) (ρ.rf U)
end
section
variable {C:Nat->Option aI}{h:Hf}{n:K}{Q:V->Hf->K->Prop}
def Cl(h:Hf)(n:K)(b:K)(l:List V)(e:Nat):Prop:=b.num<n.num/\h b=some (.c l e 0)
def Cl.ext{h h':Hf}{n n' b:K}{l:List V}{e:Nat}(a:Cl h n b l e)(x:Ext h n h' n'):Cl h' n' b l e:=⟨ep a.1 x.1,by rw[x.2 _ a.1];exact a.2⟩
def Cl.ab{h h':Hf}{n b k:K}{l:List V}{e:Nat}(a:Cl h n b l e)(x:bm k h h')(c:b.num≠k.num):Cl h' n b l e:=⟨a.1,by rw[x _ c];exact a.2⟩
def Cl.up{h:Hf}{n n' b:K}{l:List V}{e:Nat}(a:Cl h n b l e)(c:n.num<=n'.num):Cl h n' b l e:=⟨ep a.1 c,a.2⟩
def Cl.ld{h:Hf}{n b:K}{l:List V}{e:Nat}(a:Cl h n b l e){o:Nat}{v:V}(hv:nth l o=some v)(sz:Nat):bj h false sz (.p b o)=some v:=cE a.2 hv sz
def afW{f:Nat->Nat}{l:List Int}{j:Nat}{next:Int}(hj:j<l.length):eh f (l.drop j) next=if l[j]<0\/l[j]≠next - 1 then false else eh f (l.drop (j+1)) (f l[j].toNat):=by rw[eo hj,eh]
def RH(x:Nd){vv kv:V}(hv:vv.one=true)(a:kv.one=true){k:IntKind}{i:Int}:aD (bW x vv kv++[.i k i])=true:=by simp only[bW,pc,List.nil_append,aD,hv,a,Bool.and_true];rfl
def w97(F:Cd C){t:V}{ts:List Nd}{i:Nat}{vv kv:V}(ht:aZ h n t ts)(hlen:ts.length<1000000)(hi:i<ts.length)(u:da h n .i64 kv ts[i].kids)(T:ts[i].kids.length<1000000)(hv:vv.one=true)(W:∀j,j<i->ord ts j=true)
 (O:∀h' n',Ext h n h' n'->Q (.b (ord ts i)) h' n'):ν C (.f 97 [] []) [t,.a (bW ts[i] vv kv++[iN i])] h n Q:=by
 have X:=ht.sl.choose_spec.one;have Y:=κ.one u;refine ν.go F.f97 U ?_;refine ε<|cR U ht.sl.choose_spec.cells (by simp only[aD,X];rfl) <| λh1 n1 cA Z e1=>cR U U (RH _ hv Y) <| λh2 G dS a2 P=>bA <| λh3 H gJ a3 J=>δ ?_;have c2:Cl h3 H n1 (bW ts[i] vv kv++[iN i]) 141:=Cl.ext ⟨by omega,a2⟩ J;refine ε<|σ U<|ξ U (c2.ld U _)<|bA <| λh4 v jZ a4 z=>aH U U a4 U <| λw a5 b5=>δ ?_;have r:Ext h n w v:=(((e1.trans P).trans J).trans z).ab b5 (by omega);have c1:Cl w v n [t] 23:=(((Cl.ext ⟨by omega,Z⟩ P).ext J).ext z).ab b5 (by omega);have c2:Cl w v n1 (bW ts[i] vv kv++[iN i]) 141:=(c2.ext z).ab b5 (by omega);have c3:Cl w v G [.b false] 4:=(Cl.ext ⟨by omega,a3⟩ z).ab b5 (by omega);have c4:Cl w v H [iN i] 3:=⟨by omega,a5⟩;refine θ<|ε<|σ U<|σ U<|ξ U (c2.ld U _)<|ψ U U<|afS F (u.ext r) T (λj=>.i .i64 (ts[i].kids.getD j 0)) (λj hj=>by simp[dH,hj]) ?_;intro b e h6 A m a6 je dY it;refine δ ?_;let I:Nat->Hf->K->Prop:=λj h' n'=>Ext h n h' n'/\(b.num<n'.num/\h' b=some (.c [kv] e 0)/\da h' n' .i64 kv ts[i].kids)/\Cl h' n' n [t] 23/\Cl h' n' G [.b false] 4/\∃next:Nat,Cl h' n' H [iN next] 3/\next<=i/\eh (fs ts) (ts[i].kids.reverse.drop j) next=ord ts i;let D:Ex->Hf->K->Prop:=λex h' n'=>ex=.ret/\Ext h n h' n'/\Cl h' n' G [.b false] 4/\ord ts i=false;refine aj<|sJ U it I D ?_ ?_ ?_ ?_ ?_ ?_ ?_ ?_
 ·rintro j h1 n1 h' n' ⟨g1,⟨k,o,B⟩,p,l,next,s,x,g⟩ ex;exact⟨g1.trans ex,⟨ep k ex.1,by rw[ex.2 _ k];exact o,B.ext ex⟩,p.ext ex,l.ext ex,next,s.ext ex,x,g⟩
 ·rintro j h1 n1 h' ⟨g1,⟨k,o,B⟩,p,l,next,s,x,g⟩ d;have:=r.1;have:=m.1;have R:=g1.ab d (by omega);exact⟨R,⟨k,by rw[d _ (by omega)];exact o,u.ext R⟩,p.ab d (by omega),l.ab d (by omega),next,s.ab d (by omega),x,g⟩
 ·rintro j h1 n1 ⟨g1,k,_⟩;exact k
 ·intro j hj;rw[sQ];rfl
 ·intro h' d;have:=r.1;have:=m.1;have hs:A.succ.num=A.num+1:=K.eF A;have g1:Ext h n h' A.succ:=((r.trans m).ab d (by omega)).succ;refine⟨g1,⟨by omega,by rw[d _ (by omega)];exact a6,u.ext g1⟩,((c1.ext m).ab d (by omega)).up (by omega),((c3.ext m).ab d (by omega)).up (by omega),i,((c4.ext m).ab d (by omega)).up (by omega),φ i,?_⟩;rw[ord,jj hi];rfl
 ·rintro j hj h1 m1 E1 y ⟨g1,⟨k,o,B⟩,p,l,next,s,x,g⟩ L;have bV:j<ts[i].kids.length:=by rw[qs]at hj;exact hj
  rw[sQ]at L;simp only[jB,lK]at L;subst L;have hjr:j<ts[i].kids.reverse.length:=by simpa using bV
  have kX:ts[i].kids.getD (ts[i].kids.length - 1 - j) 0=ts[i].kids.reverse[j]:=by
   have hx:ts[i].kids.length - 1 - j<ts[i].kids.length:=by omega
   rw[List.getElem_reverse,dH,df hx];rfl
  rw[kX];generalize CA:ts[i].kids.reverse[j]=E at*;rw[afW hjr,CA]at g;refine aA<|γ U<|δ ⟨rfl,rfl,λh2 d=>?_⟩;have:=r.1;have:=m.1;have c7:=s.ab d (by omega);refine aj<|θ ?_;by_cases h0:E<0
  ·refine ε<|γ U<|ay U U<|γ U<|μ U (by simp[h0])<|μ U (by simp[h0])<|μ U (by simp[h0])<|μ U (by simp[h0])<|aU U (by simp[h0]) U<|δ ?_;refine ah U U ?_;rw[ao (Or.inl h0)]at g;have c6:=l.ab d (by omega);refine ε<|aH U U c6.2 U <| λM q b7=>δ ?_;refine Γ ⟨y,b7 _ (by omega),rfl,(g1.ab d (by omega)).ab b7 (by omega),⟨by have:=c6.1;omega,q⟩,g.symm⟩
  ·by_cases N:E=(next:Int) - 1
   ·rw[Θ (by omega)]at g;obtain⟨k',rfl⟩:∃k':Nat,E=(k':Int):=⟨E.toNat,by omega⟩;refine ε<|γ U<|ay U U<|γ U<|ζ U (by simp<;>omega)<|γ U<|ζ U (by simp<;>omega)<|ξ U (c7.ld U _)<|ζ U (by simp<;>omega)<|gG U U ⟨by omega,by omega⟩<|ζ U (by simp<;>omega)<|dR U U<|aL U (by simp<;>omega) U<|δ ?_;refine ae U (by simp[N])<|Ω ?_;refine aA<|ξ U ((p.ab d (by omega)).ld U _)<|γ U<|ψ U U<|Jn F.f102 (ht.ext (g1.ab d (by omega))) hlen (by omega) (λj hj=>W j (by omega))<|aH U U c7.2 U <| λM q b7=>δ ?_;have:=p.1;have:=l.1;have:=nW ts k';have S:=(g1.ab d (by omega)).ab b7 (by omega);exact⟨y,b7 _ (by omega),S,⟨k,by rw[b7 _ (by omega),d _ (by omega)];exact o,u.ext S⟩,(p.ab d (by omega)).ab b7 (by omega),(l.ab d (by omega)).ab b7 (by omega),fs ts k',⟨c7.1,q⟩,by omega,by simpa using g⟩
   ·refine ε<|γ U<|ay U U<|γ U<|ζ U (by simp[h0])<|γ U<|ζ U (by simp[h0])<|ξ U (c7.ld U _)<|ζ U (by simp[h0])<|gG U U ⟨by omega,by omega⟩<|ζ U (by simp[h0])<|dR U U<|aL U (by simp[h0]) U<|δ ?_;refine ah U (by simp[N]) ?_;rw[ao (Or.inr N)]at g;have c6:=l.ab d (by omega);refine ε<|aH U U c6.2 U <| λM q b7=>δ ?_;refine Γ ⟨y,b7 _ (by omega),rfl,(g1.ab d (by omega)).ab b7 (by omega),⟨by have:=c6.1;omega,q⟩,g.symm⟩
 ·rintro h' n' y ⟨g1,⟨k,o,B⟩,p,l,next,s,x,g⟩;rw[qs,oo (by simp),eh]at g;refine ε<|aH U U l.2 U <| λM q b7=>δ ?_;refine Γ ⟨_,jE rfl (cE q rfl _),?_⟩;rw[g];exact O _ _ (g1.ab b7 (by omega))
 ·rintro ex h' n' h2 y ⟨rfl,g1,k,o⟩ d;have:=r.1;have:=m.1;have c2:=k.ab d (by omega);refine⟨_,jE rfl (c2.ld U _),?_⟩;rw[←o];exact O _ _ (g1.ab d (by omega))
end
section
variable {C:Nat->Option aI}{h:Hf}{n:K}{Q:V->Hf->K->Prop}
def qw(ts:List Nd)(i:Nat):Int:=match ts[i]? with | some x=>x.op | none=>0
def Br{ts:List Nd}{i:Nat}(hi:i<ts.length):qw ts i=ts[i].op:=by simp[qw,hi]
def lT(ts:List Nd)(op:Int)(len:Nat):List Int->Nat->Bool
 | [],_=>false
 | k::l,j=>(if op=17\/op=18 then decide (qw ts k.toNat=19)==decide ((j:Int)=len - 1) else decide (qw ts k.toNat=19))||lT ts op len l (j+1)
def kC(x:Nd)(vv kv:V)(i:Nat):List V:=[.i .i64 x.op,st x.sort,st x.name,vv,kv,iN i]
def Bs(x:Nd)(vv kv:V)(i:Nat):bW x vv kv++[iN i]=kC x vv kv i:=rfl
def sT(x:Nd){vv kv:V}(hv:vv.one=true)(a:kv.one=true){i:Nat}:aD (kC x vv kv i)=true:=RH x hv a
def afX(d:Cd C){t:V}{ts:List Nd}{x:Nd}{vv kv:V}{i:Nat}{b:K}(ht:aZ h n t ts)(hlen:ts.length<1000000)(e:da h n .i64 kv x.kids)(w:x.kids.length<1000000)(o:∀k∈x.kids,0<=k/\k<ts.length)(hb:Cl h n b (kC x vv kv i) 141):
 ∀(r j:Nat),x.kids.length - j=r->j<=x.kids.length->Q (.i .i64 (if lT ts x.op x.kids.length (x.kids.drop j) j then 11 else 0)) h n->WC C abn [(k0,t),(k3,.p b 0),(qg,kv),(qh,iN x.kids.length),(rS,iN j)] h n (blk 0 (sq C abo (fq [.t k4] Q))):=by
 intro r
 induction r with
 | zero=>
  intro j hj q c;have:j=x.kids.length:=by omega
  subst this;refine ax ?_;refine ε<|ay U U<|δ ?_;refine θ<|ae U (by simp)<|aJ ?_;refine ε<|γ U<|δ (Γ ⟨_,rfl,by simpa[lT]using c⟩)
 | succ r ih=>
  intro j hj q c;have f:j<x.kids.length:=by omega
  have s:=o x.kids[j] (bK _);rw[eo f,lT]at c;obtain⟨k',u⟩:∃k':Nat,x.kids[j]=(k':Int):=⟨x.kids[j].toNat,by omega⟩;have m:=e.get f 1;rw[u]at s c m;have g:k'<ts.length:=by omega
  obtain⟨y,z,v⟩:=ht.node g;obtain⟨cs,hs⟩:=ht.sl;rw[show((k':Int)).toNat=k' from rfl,Br g]at c;refine ax ?_;refine ε<|ay U U<|δ ?_;refine θ<|ah U (by simp;omega)<|Ω ?_;refine θ<|aj<|ε<|γ U<|aB U U e f<|ξ U m<|γ U<|γ U<|δ ?_;refine ε<|γ U<|γ U<|aB U U hs g<|σ U<|ξ U (v.op _)<|aS U U<|γ U<|δ ?_;have next:lT ts x.op x.kids.length (x.kids.drop (j+1)) (j+1)=lT ts x.op x.kids.length (x.kids.drop j) j->True:=λ_=>trivial;by_cases a:x.op=17\/x.op=18
  ·rw[ao a]at c;cases he:(decide (ts[k'].op=19)==decide ((j:Int)=(x.kids.length:Int) - 1):Bool) with
   | true=>
    rw[he]at c;refine ε<|σ U<|σ U<|ξ U (hb.ld U _)<|ψ U U<|zq d.f56<|γ U<|ζ U (by simp[a])<|γ U<|ζ U (by simp[a])<|γ U<|ζ U (by simp[a])<|σ U<|ζ U (by simp[a])<|σ U<|ζ U (by simp[a])<|ξ U (hb.ld U _)<|ζ U (by simp[a])<|al U e<|ζ U (by simp[a])<|gG U U ⟨by omega,by omega⟩<|ζ U (by simp[a])<|aS U U<|ζ U (by simp[a])<|Pd U U<|aU U (by simp[a]) U<|γ U<|μ U (by exact he)<|μ U (by exact he)<|μ U (by exact he)<|μ U (by exact he)<|μ U (by exact he)<|μ U (by exact he)<|dM U<|μ U (by exact he)<|aU U (by exact he) U<|δ ?_;refine ah U U ?_;refine ε<|γ U<|δ (Γ ⟨_,rfl,by simpa using c⟩)
   | false=>
    rw[he]at c;refine ε<|σ U<|σ U<|ξ U (hb.ld U _)<|ψ U U<|zq d.f56<|γ U<|ζ U (by simp[a])<|γ U<|ζ U (by simp[a])<|γ U<|ζ U (by simp[a])<|σ U<|ζ U (by simp[a])<|σ U<|ζ U (by simp[a])<|ξ U (hb.ld U _)<|ζ U (by simp[a])<|al U e<|ζ U (by simp[a])<|gG U U ⟨by omega,by omega⟩<|ζ U (by simp[a])<|aS U U<|ζ U (by simp[a])<|Pd U U<|aU U (by simp[a]) U<|γ U<|ζ U (by exact he)<|σ U<|ζ U (by exact he)<|σ U<|ζ U (by exact he)<|ξ U (hb.ld U _)<|ζ U (by exact he)<|ψ U U<|zq d.f56<|ζ U (by exact he)<|bZ U<|ζ U (by exact he)<|γ U<|μ U (by simp[a])<|ζ U (by exact he)<|aL U (by simp[a]) U<|aL U (by exact he) U<|δ ?_;refine ae U (by simp[a])<|Ω ?_;refine aA<|aX U U ⟨by omega,by omega⟩<|γ U<|δ ?_;exact χ (ih (j+1) (by omega) (by omega) (by simpa using c)) (ρ.rf U)
  ·rw[Θ a]at c;refine ε<|σ U<|σ U<|ξ U (hb.ld U _)<|ψ U U<|zq d.f56<|γ U<|μ U (by simp[a])<|μ U (by simp[a])<|μ U (by simp[a])<|μ U (by simp[a])<|μ U (by simp[a])<|μ U (by simp[a])<|μ U (by simp[a])<|μ U (by simp[a])<|μ U (by simp[a])<|aL U (by simp[a]) U<|γ U<|ζ U U<|σ U<|ζ U U<|σ U<|ζ U U<|ξ U (hb.ld U _)<|ζ U U<|ψ U U<|zq d.f56<|ζ U U<|bZ U<|ζ U U<|γ U<|ζ U (by simp[a])<|γ U<|ζ U U<|aU U (by simp[a]) U<|aL U U U<|δ ?_;refine cm U (λl=>?_) (λl=>Ω ?_)
   ·rw[l]at c;refine ε<|γ U<|δ (Γ ⟨_,rfl,by simpa using c⟩)
   ·rw[l]at c;refine aA<|aX U U ⟨by omega,by omega⟩<|γ U<|δ ?_;exact χ (ih (j+1) (by omega) (by omega) (by simpa using c)) (ρ.rf U)
def w98(d:Cd C){t:V}{ts:List Nd}{x:Nd}{vv kv:V}{i:Nat}(ht:aZ h n t ts)(hlen:ts.length<1000000)(hv:vv.one=true)(b:da h n .i64 kv x.kids)(e:x.kids.length<1000000)(g:∀k∈x.kids,0<=k/\k<ts.length)
 (j:∀h' n',Ext h n h' n'->Q (.i .i64 (if lT ts x.op x.kids.length x.kids 0 then 11 else 0)) h' n'):ν C (.f 98 [] []) [t,.a (kC x vv kv i)] h n Q:=by
 refine ν.go d.f98 U ?_;refine ε<|cR U U (sT x hv (κ.one b)) <| λh1 n1 m l c=>γ U<|δ ?_;have c1:Cl h1 n1 n (kC x vv kv i) 141:=⟨by omega,l⟩;refine θ<|ε<|σ U<|σ U<|ξ U (c1.ld U _)<|al U b<|γ U<|δ ?_;exact aj<|χ (afX d (ht.ext c) hlen (b.ext c) e g c1 _ 0 rfl (by omega) (j _ _ c)) (ρ.rf U)
end
section
variable {C:Nat->Option aI}{h:Hf}{n:K}{Q:V->Hf->K->Prop}
def afY(d:Cd C){p:S×S}{name:S}{b:K}(hb:Cl h n b [st name] 9)(e:∀h' n',Ext h n h' n'->Q (.b (decide (p.1=name))) h' n'):ν C (.f 191 [] [.p b 0]) [.a [st p.1,st p.2]] h n Q:=by refine ν.go d.f191 U ?_;refine ε<|cR U U U <| λh1 n1 i g c=>γ U<|δ ?_;refine ε<|σ U<|ξ U (cE g rfl _)<|ξ U ((hb.ext c).ld U _)<|eC U U<|γ U<|δ (Γ ⟨_,rfl,e _ _ c⟩)
def iP(name:S):List (S×S)->Nat->Int
 | [],_=>-1
 | p::l,i=>if p.1=name then (i:Int) else iP name l (i+1)
def Bt(name:S):∀(l:List (S×S)) (i:Nat),0<=iP name l i↔name∈l.map Prod.fst:=by
 intro l
 induction l with
 | nil=>intro i;simp[iP]
 | cons p l ih=>
  intro i;simp only[iP];by_cases h:p.1=name
  ·simp[h]
  ·rw[Θ h,ih];simp only[gB,eO];have:name≠p.1:=λe=>h e.symm;simp[this]
def Bu(name:S)(l:List (S×S))(i:Nat):decide (0<=iP name l i)=decide (name∈l.map Prod.fst):=decide_eq_decide.2 (Bt name l i)
def afZ(k:Cd C){v:V}{l:List (S×S)}{name:S}{b:K}(hlen:l.length<1000000):∀(r j:Nat) (h:Hf) (n:K),du h n v l->Cl h n b [st name] 9->l.length - j=r->j<=l.length->(∀h' n',Ext h n h' n'->Q (.i .i64 (iP name (l.drop j) j)) h' n')->WC C abK [(k0,v),(k1,.f 191 [] [.p b 0]),(k7,iN l.length),(k8,iN j)] h n (blk 0 (sq C abL (fq [.t k4] Q))):=by
 intro r
 induction r with
 | zero=>
  intro j h n hv hb hj m a;have:j=l.length:=by omega
  subst this;refine ax ?_;refine ε<|ay U U<|δ ?_;refine θ<|ae U (by simp)<|aJ ?_;refine ε<|γ U<|δ (Γ ⟨_,rfl,by simpa[iP]using a _ _ (Ext.refl h n)⟩)
 | succ r ih=>
  intro j h n hv hb hj m a;have d:j<l.length:=by omega
  rw[eo d,iP]at a;refine ax ?_;refine ε<|ay U U<|δ ?_;refine θ<|ah U (by simp;omega)<|Ω ?_;refine θ<|aj<|ε<|γ U<|γ U<|δ ?_;refine ε<|γ U<|γ U<|γ U<|aB U U hv d<|ξ U (hv.jP d)<|ψ U U<|afY k hb <| λh1 n1 c=>δ ?_;refine cm U (λg=>?_) (λg=>Ω ?_)
  ·refine ε<|γ U<|γ U<|δ (Γ ⟨_,rfl,by have:=a _ _ c;rw[ao (by simpa using g)]at this;exact this⟩)
  ·rw[Θ (by simpa using g)]at a;refine aA<|aX U U ⟨by omega,by omega⟩<|γ U<|δ ?_;exact χ (ih (j+1) h1 n1 (hv.ext c) (hb.ext c) (by omega) (by omega) (λh' n' e=>a _ _ (c.trans e))) (ρ.rf U)
def sU(c:Cd C){v:V}{l:List (S×S)}{name:S}(hv:du h n v l)(hlen:l.length<1000000)(a:∀h' n',Ext h n h' n'->Q (.b (decide (name∈l.map Prod.fst))) h' n'):ν C (.f 106 [] []) [v,st name] h n Q:=by
 refine ν.go c.f106 U ?_;refine ε<|cR U U U <| λh1 n1 o g e=>γ U<|δ ?_;have hb:Cl h1 n1 n [st name] 9:=⟨by omega,g⟩;have j:∀{Q:V->Hf->K->Prop},(∀h' n',Ext h1 n1 h' n'->Q (.i .i64 (iP name l 0)) h' n')->ν C (.f 241 [] []) [v,.f 191 [] [.p n 0]] h1 n1 Q:=by intro Q a;refine ν.go c.f241 U ?_;refine ε<|γ U<|δ ?_;refine θ<|ε<|γ U<|al U hv<|γ U<|δ ?_;exact aj<|χ (afZ c hlen _ 0 h1 n1 (hv.ext e) hb rfl (by omega) a) (ρ.rf U)
 have k:∀{Q:V->Hf->K->Prop},(∀h' n',Ext h1 n1 h' n'->Q (.b (decide (name∈l.map Prod.fst))) h' n')->ν C (.f 181 [] []) [v,.f 191 [] [.p n 0]] h1 n1 Q:=by intro Q a;refine ν.go c.f181 U ?_;refine ε<|γ U<|δ ?_;refine ε<|γ U<|γ U<|ψ U U<|j <| λh2 m d=>dj U U<|γ U<|δ (Γ ⟨_,rfl,by rw[Bu];exact a _ _ d⟩)
 refine ε<|γ U<|rC U U<|ψ U U<|k <| λh2 m d=>γ U<|δ (Γ ⟨_,rfl,a _ _ (e.trans d)⟩)
abbrev lU:S:=[73,110,116]
abbrev mV:S:=[82,101,97,108]
abbrev yB:S:=[66,111,111,108]
def RI(c:Cd C){s:S}(a:Q (.b (decide (s=lU\/s=mV))) h n):ν C (.f 189 [] []) [st s] h n Q:=by
 refine ν.go c.f189 U ?_;refine ε<|γ U<|δ ?_;by_cases h1:s=lU
 ·refine ε<|γ U<|eC (b:=[73,110,116]) U U<|γ U<|μ U (by simp[h1])<|μ U (by simp[h1])<|aU U (by simp[h1]) U<|γ U<|δ (Γ ⟨_,rfl,by simpa[h1]using a⟩)
 ·refine ε<|γ U<|eC (b:=[73,110,116]) U U<|γ U<|ζ U (by simp[h1])<|γ U<|ζ U (by simp[h1])<|eC (b:=[82,101,97,108]) U U<|aL U (by simp[h1]) U<|γ U<|δ (Γ ⟨_,rfl,by simpa[h1]using a⟩)
end
section
variable {C:Nat->Option aI}{h:Hf}{n:K}{Q:V->Hf->K->Prop}
def sW(l:List Int)(ks:List Int)(m:Int):Int:=ks.foldl (λm k=>max m (l.getD k.toNat 0)) m
def dl(ts:List Nd):Nat->List Int
 | 0=>[]
 | i+1=>dl ts i++[sW (dl ts i) (fT ts i) 0+1]
def tN(ts:List Nd):Int:=(dl ts ts.length).getD (ts.length - 1) 0
def lV(ts:List Nd)(m:Nat):(dl ts m).length=m:=by induction m<;>simp_all [dl]
def RJ{l:List Int}{b:Int}:∀(ks:List Int) (m:Int),(∀j,l.getD j 0<=b)->m<=b->sW l ks m<=b/\m<=sW l ks m:=by
 intro ks
 induction ks with
 | nil=>intro m _ hm;exact⟨hm,Int.le_refl _⟩
 | cons k ks ih=>
  intro m hl hm;have:=ih (max m (l.getD k.toNat 0)) hl (by have:=hl k.toNat;omega);simp only[sW,List.foldl_cons]at this ⊢;exact⟨this.1,by omega⟩
def Jo(ts:List Nd):∀(m j:Nat),(dl ts m).getD j 0<=m/\0<=(dl ts m).getD j 0:=by
 intro m
 induction m with
 | zero=>intro j;simp[dl]
 | succ m ih=>
  intro j;by_cases hj:j<m
  ·rw[dl,dH,qW (by rw[lV];exact hj),←dH];have:=ih j;omega
  ·by_cases hm:j=m
   ·subst hm;have e:(dl ts (j+1)).getD j 0=sW (dl ts j) (fT ts j) 0+1:=by
     rw[dl,dH,tU (by rw[lV];exact φ _),lV];simp
    rw[e];have:=RJ (l:=dl ts j) (b:=j) (fT ts j) 0 (λk=>(ih k).1) (by omega);omega
   ·rw[dH,qY (by rw[lV];omega)];simp;omega
def dz(ts:List Nd)(i:Nat):List Int:=dl ts i++List.replicate (ts.length - i) 0
def wH{ts:List Nd}{i:Nat}(hi:i<=ts.length):(dz ts i).length=ts.length:=by simp[dz,lV];omega
def Jp{ts:List Nd}{i k:Nat}(a:k<i):(dz ts i).getD k 0=(dl ts i).getD k 0:=by rw[dz,dH,qW (by rw[lV];exact a),←dH]
def af2{ts:List Nd}{i:Nat}(hi:i<ts.length):(dz ts i)[i]'(by rw[wH (by omega)];exact hi)=0:=by unfold dz;rw[List.getElem_append_right (by rw[lV];exact φ _)];simp
def RK{ts:List Nd}{i:Nat}(hi:i<ts.length):(dz ts i).set i (sW (dl ts i) (fT ts i) 0+1)=dz ts (i+1):=by
 unfold dz;rw[List.set_append_right _ _ (by rw[lV];exact φ _),lV,lL,dl];have:ts.length - i=(ts.length - (i+1))+1:=by omega
 rw[this,ub,List.set_cons_zero,pO];rfl
def af3{α:Type}(v:α):∀{l:List α} {i:Nat},i<l.length->cL [v] l i=some (l.set i v):=by
 intro l
 induction l with
 | nil=>intro i h;simp at h
 | cons a l ih=>
  intro i h;cases i with
  | zero=>simp[cL,over]
  | succ i=>simp only[cL,ih (by simpa using h),ra]
def af4(k:IntKind)(x:Int):∀(l:List Int) (i:Nat),(cO k l).set i (.i k x)=cO k (l.set i x):=by
 intro l
 induction l with
 | nil=>intro i;rfl
 | cons a l ih=>intro i;cases i with
  | zero=>rfl
  | succ i=>simp only[cO,ra,ih]
def sX{k:IntKind}{x:Int}{l:List Int}{i:Nat}(hi:i<l.length)(o:Nat)(a:o=i):ju (cO k l) 0 o 1 (.i k x)=some (cO k (l.set i x)):=by
 subst a;have:ju (cO k l) 0 o 1 (.i k x)=cL [.i k x] (cO k l) o:=by simp[ju,V.cells,aD,V.one,fK]
 rw[this,af3 _ (by rw[AZ];exact hi),af4]
def Jq(k:IntKind):∀m:Nat,dL [.i k 0] m=cO k (List.replicate m 0):=by
 intro m
 induction m with
 | zero=>rfl
 | succ m ih=>simp only[dL,ih,ub,cO,pc,List.nil_append]
def Cl.wI{b:K}{k:IntKind}{l:List Int}{e len:Nat}(a:Cl h n b (cO k l) e)(hl:l.length=len):da h n k (.sl b 0 len len) l:=by subst hl;exact κ.whole a.1 a.2 (by simp[AZ])
def Bv{l:List Int}{i:Nat}(hi:i<l.length):l.getD i 0=l[i]:=by rw[dH,df hi];rfl
def Jr{b:K}(hb:b.num<n.num){o l c:Nat}:bk n (.sl b o l c)=true:=O3 hb
def Js(b:K)(o l c:Nat):cI (.sl b o l c) (.sl b o l c)=true:=by simp[cI,K.beq_refl]
section
variable {ts:List Nd}{i:Nat}{vv kv:V}{bl c3 c4:K}{Q1:Ex->Env->Hf->K->Prop}
def af5(hlen:ts.length<1000000)(hi:i<ts.length)(D:ts[i].kids.length<1000000)(u:∀k∈ts[i].kids,k<i/\0<=k)(E:bl.num≠c3.num)(F:bl.num≠c4.num):
 ∀(r j:Nat) (m:Int) (h:Hf),ts[i].kids.length - j=r->j<=ts[i].kids.length->0<=m->m<=i->Cl h n c3 [.sl bl 0 ts.length ts.length] 85->Cl h n c4 (kC ts[i] vv kv i) 141->Cl h n bl (cO .i64 ((dz ts i).set i m)) 3->da h n .i64 kv ts[i].kids->(kv=.ns\/kv.blk.num≠bl.num)->(∀E' h',bm bl h h'->Cl h' n bl (cO .i64 ((dz ts i).set i (sW (dl ts i) (ts[i].kids.drop j) m+1))) 3->Q1 .normal E' h' n)->WC C abN [(k3,.p c3 0),(k4,.p c4 0),(LW,kv),(k16,.i .i64 (ts[i].kids.length:Nat)),(CF,iN j)] h n (blk 2 (sq C abO Q1)):=by
 intro r
 induction r with
 | zero=>
  intro j m h hj v w hm d e a c l f;have:j=ts[i].kids.length:=by omega
  subst this;have o:((dz ts i).set i m).length=ts.length:=by simp[wH (eu hi)]
  have hI:=a.wI o;have g:=hI.get (i:=i) (by omega) 1;simp only[vM]at g;refine ax ?_;refine ε<|ay U U<|δ ?_;refine θ<|ae U (by simp)<|aJ ?_;refine aA<|ξ U (d.ld U _)<|σ U<|ξ U (e.ld U _)<|aB U U hI (by omega)<|ξ U g<|aX U U ⟨by omega,by omega⟩<|aB U U hI (by omega)<|aH U U a.2 (sX (i:=i) (by omega) _ (by simp[V.off])) <| λh1 b b1=>δ ?_;have b1:bm bl h h1:=b1;replace b:h1 bl=_:=b;refine f _ _ b1 ⟨a.1,?_⟩;rw[List.set_set]at b;simpa[sW]using b
 | succ r ih=>
  intro j m h hj v w hm d e a c l f;have q:j<ts[i].kids.length:=by omega
  have x:=u ts[i].kids[j] (bK _);have t:=c.get q 1;rw[eo q]at f;obtain⟨k',y⟩:∃k':Nat,ts[i].kids[j]=(k':Int):=⟨ts[i].kids[j].toNat,by omega⟩;rw[y]at x t f;have o:((dz ts i).set i m).length=ts.length:=by simp[wH (eu hi)]
  have hI:=a.wI o;have g:=hI.get (i:=i) (by omega) 1;simp only[vM]at g;have s:=hI.get (i:=k') (by omega) 1;rw[xL (by omega)]at s;have z:(dz ts i)[k']'(by rw[wH (by omega)];omega)=(dl ts i).getD k' 0:=by rw[←Jp (by omega),Bv]
  rw[z]at s;have G:=Jo ts i k';refine ax ?_;refine ε<|ay U U<|δ ?_;refine θ<|ah U (by simp;omega)<|Ω ?_;refine θ<|aj<|ε<|aB U U c q<|ξ U t<|γ U<|δ ?_;refine nO<|aC U (d.ld U _) (Jr a.1) (Js _ _ _ _)<|bG U<|aC U (e.ld U _) U (ff _ _)<|aC U (d.ld U _) (Jr a.1) (Js _ _ _ _)<|bG U<|aC U (e.ld U _) U (ff _ _)<|cK U U hI (by omega)<|aC U g U (ff _ _)<|aC U (d.ld U _) (Jr a.1) (Js _ _ _ _)<|ak U<|cK U U hI (by omega)<|aC U s U (ff _ _)<|aaO U U<|cK U U hI (by omega)<|eT U U a.2 (sX (i:=i) (by omega) _ (by simp[V.off])) <| λh1 b b1=>bU (by simp[AG,jD,mn,Nat.testBit]) ?_;have b1:bm bl h h1:=b1;replace b:h1 bl=_:=b;rw[List.set_set]at b;refine aA<|aX U U ⟨by omega,by omega⟩<|γ U<|δ ?_;refine χ (ih (j+1) (max m ((dl ts i).getD k' 0)) h1 (by omega) (by omega) (by omega) (by omega) (d.ab b1 (by omega)) (e.ab b1 (by omega)) ⟨a.1,b⟩ (κ.ab c b1 l) l ?_) (ρ.rf U);intro E' h' A B;exact f E' h' (λk c=>by rw[A k c,b1 k c]) (by simpa[sW]using B)
end
def RL(y:Cd C){t:V}{ts:List Nd}(ht:aZ h n t ts)(hlen:ts.length<1000000)(h0:0<ts.length)(H:∀i (hi:i<ts.length),ts[i].kids.length<1000000)(J:∀j (hj:j<ts.length),∀k∈ts[j].kids,k<j/\0<=k)
 (L:∀h' n',Ext h n h' n'->Q (.i .i64 (tN ts)) h' n'):ν C (.f 103 [] []) [t] h n Q:=by
 obtain⟨m,tm⟩:=ht.get;refine ν.go y.f103 U ?_;obtain⟨cs,hs⟩:=ht.sl;refine ε<|γ U<|δ ?_;refine ε<|γ U<|al U hs<|pA U U (by omega) (by omega) <| λh1 n1 cA M N=>bA <| λh2 s dS O z=>aH U U O U <| λu P b3=>δ ?_;have x3:Ext h n u s:=(N.trans z).ab b3 (by omega);have c1:Cl u s n (cO .i64 (dz ts 0)) 3:=by refine((Cl.ext ⟨by omega,?_⟩ z)).ab b3 (by omega);rw[M,Jq];simp[dz,dl]
 have c2:Cl u s n1 [.sl n 0 ts.length ts.length] 85:=⟨by omega,P⟩;refine θ<|ε<|γ U<|ψ U U<|Jk y (tm.ext x3) hlen ?_;intro b e h4 r x4 R wc af6 it;refine δ<|aj ?_;let I:Nat->Hf->K->Prop:=λi h' n'=>Ext h n h' n'/\(b.num<n'.num/\h' b=some (.c [t] e 0))/\Cl h' n' n (cO .i64 (dz ts i)) 3/\Cl h' n' n1 [.sl n 0 ts.length ts.length] 85;have y1:=x3.1;have y2:=x4.1;refine sJ U it I (λ_ _ _=>False) ?_ ?_ ?_ ?_ ?_ ?_ ?_ ?_
 ·rintro j h1 n1 h' n' ⟨g1,⟨a,p⟩,l,d⟩ ex;exact⟨g1.trans ex,⟨ep a ex.1,by rw[ex.2 _ a];exact p⟩,l.ext ex,d.ext ex⟩
 ·rintro j h1 n1 h' ⟨g1,⟨a,p⟩,l,d⟩ g;have S:=g1.ab g (by omega);exact⟨S,⟨a,by rw[g _ (by omega)];exact p⟩,l.ab g (by omega),d.ab g (by omega)⟩
 ·rintro j h1 n1 ⟨g1,a,_⟩;exact⟨a.1,a.2,tm.ext g1⟩
 ·intro j hj;rw[qp];rfl
 ·intro h' g;have hs:r.succ.num=r.num+1:=K.eF r;have g1:Ext h n h' r.succ:=((x3.trans x4).ab g (by omega)).succ;exact⟨g1,⟨by omega,by rw[g _ (by omega)];exact R⟩,((c1.ext x4).ab g (by omega)).up (by omega),((c2.ext x4).ab g (by omega)).up (by omega)⟩
 ·rintro j hj h1 m1 E1 A ⟨g1,⟨a,p⟩,l,d⟩ v;have o:j<ts.length:=by rw[pD]at hj;exact hj
  rw[qp]at v;simp only[jB,lK]at v;subst v;obtain⟨vv,kv,T,W,w⟩:=tm.row o;rw[T,Bs];have X:=sT ts[j] (κ.one W) (κ.one w) (i:=j);refine aA<|bA <| λh5 B oi Y q=>aH U U Y (cj rfl rfl X) <| λh6 Z b6=>δ ⟨rfl,by rw[b6 _ (by omega),q.2 _ A],λx b7=>?_⟩;have c4:Cl x B m1 (kC ts[j] vv kv j) 141:=(Cl.ab ⟨by omega,Z⟩ b7 (by omega));have D:Ext h n x B:=((g1.trans q).ab b6 (by omega)).ab b7 (by omega);have E:=w.ext D;have af8:=H j o;refine aj ?_;refine θ<|ε<|σ U<|σ U<|ξ U (c4.ld U _)<|al U E<|γ U<|δ ?_;refine aj ?_;refine χ (af5 (i:=j) (vv:=vv) (c3:=n1) (c4:=m1) (bl:=n) hlen o af8 (J j o) (by omega) (by omega) _ 0 0 x rfl (by omega) (by omega) (by omega) (((d.ext q).ab b6 (by omega)).ab b7 (by omega)) c4 ?_ E ?_ ?_) (ρ.rf U)
  ·have:=((l.ext q).ab b6 (by omega)).ab b7 (by omega);have e0:(dz ts j).set j 0=dz ts j:=by
    apply vO (by simp);intro k h1 h2;rw[List.getElem_set];split
    ·rename_i hk;subst hk;exact(af2 o).symm
    ·rfl
   rw[e0];exact this
  ·cases κ.cP w with
   | inl h=>exact Or.inl h
   | inr h=>exact Or.inr (by omega)
  ·intro E' h8 b8 F;refine⟨by omega,b8 _ (by omega),D.ab b8 (φ _),⟨by omega,by rw[b8 _ (by omega),b7 _ (by omega),b6 _ (by omega),q.2 _ a];exact p⟩,?_,(((d.ext q).ab b6 (by omega)).ab b7 (by omega)).ab b8 (by omega)⟩;rw[gb,←jj o,RK o]at F;exact F
 ·rintro h' n' jZ ⟨g1,⟨a,p⟩,l,d⟩;rw[pD]at l;have hl:(dz ts ts.length).length=ts.length:=wH (φ _);have hI:=l.wI hl;have G:=hI.get (i:=ts.length - 1) (by omega) 1;have hx:(dz ts ts.length)[ts.length - 1]'(by omega)=tN ts:=by rw[←Bv,Jp (by omega)];rfl
  rw[hx]at G;refine ε<|ξ U (d.ld U _)<|ξ U (d.ld U _)<|al U hI<|gG U U ⟨by omega,by omega⟩<|?_;rw[show((dz ts ts.length).length:Int) - 1=((ts.length - 1:Nat):Int) by omega];refine aB U U hI (by omega)<|ξ U G<|γ U<|δ<|Γ ⟨_,rfl,L _ _ g1⟩
 ·rintro ex h' n' h2 A hf;exact hf.elim
def af9(a:Cd C){t:V}{ts:List Nd}(ht:aZ h n t ts)(hlen:ts.length<1000000)(h0:0<ts.length)(b:∀i (hi:i<ts.length),ts[i].kids.length<1000000)(c:∀j,j<ts.length->ord ts j=true)
 (d:∀h' n',Ext h n h' n'->Q (.i .i64 (tN ts)) h' n'):ν C (.f 103 [] []) [t] h n Q:=RL a ht hlen h0 b (λj hj=>by have:=oI (c j hj);rw[jj hj]at this;exact this) d
end
section
variable {C:Nat->Option aI}{h:Hf}{n:K}{Q:V->Hf->K->Prop}
def lF(d:Cd C){x:Bool}{e:Int}(c:Q (.i .i64 (if x then e else 0)) h n):ν C (.f 49 [] []) [.b x,.i .i64 e] h n Q:=by
 refine ν.go d.f49 U ?_;refine ε<|γ U<|δ ?_;refine θ<|ε<|γ U<|δ ?_;refine cm U (λa=>?_) (λa=>?_)
 ·refine ε<|γ U<|γ U<|δ (Γ ⟨_,rfl,by subst a;exact c⟩)
 ·refine Ω ?_;refine ε<|γ U<|δ (Γ ⟨_,rfl,by subst a;exact c⟩)
def RM(d:Cd C){c:UInt8}(a:Q (.b (fP c)) h n):ν C (.f 302 [] []) [.i .u8 (c.toNat:Nat)] h n Q:=by
 refine ν.go d.f302 U ?_;refine ε<|γ U<|δ ?_;by_cases h1:48<=c.toNat
 ·have e:fP c=decide ((c.toNat:Int)<=57):=by simp[fP,h1]<;>omega
  rw[e]at a;refine ε<|γ U<|dj U U<|γ U<|ζ U (by simp<;>omega)<|γ U<|ζ U (by simp<;>omega)<|mS U U<|aU U (by simp<;>omega) U<|γ U<|δ (Γ ⟨_,rfl,a⟩)
 ·have e:fP c=false:=by simp[fP,h1]
  rw[e]at a;refine ε<|γ U<|dj U U<|γ U<|μ U (by simp<;>omega)<|μ U (by simp<;>omega)<|aL U (by simp<;>omega) U<|γ U<|δ (Γ ⟨_,rfl,a⟩)
def aga(f:Cd C){b:S}(hlen:b.length<1000000):∀(m i:Nat) (d:V),b.length - i=m->i<=b.length->Q (.b ((b.drop i).all fP)) h n->WC C ab2 [(k3,st b),(k4,iN i)] h n (blk 0 (sq C ab3 (fq [.t k2] Q))):=by
 intro m
 induction m with
 | zero=>
  intro i d hm hi a;refine ax ?_;refine θ<|ε<|γ U<|γ U<|bN U<|ay U U<|δ ?_;refine ae U (by simp;omega)<|aJ ?_;have:i=b.length:=by omega
  subst this;refine ε<|γ U<|δ (Γ ⟨_,rfl,by simpa using a⟩)
 | succ m ih=>
  intro i d hm hi a;have e:i<b.length:=by omega
  rw[eo e,List.all_cons]at a;refine ax ?_;refine θ<|ε<|γ U<|γ U<|bN U<|ay U U<|δ ?_;refine ah U (by simp;omega)<|Ω ?_;cases c:fP b[i] with
  | false=>
   rw[c]at a;refine θ<|aj<|ε<|γ U<|γ U<|kc U U e<|ψ U U<|RM f<|bZ U<|δ ?_;refine ah U (by simp[c]) ?_;refine ε<|γ U<|δ (Γ ⟨_,rfl,a⟩)
  | true=>
   rw[c]at a;refine θ<|aj<|ε<|γ U<|γ U<|kc U U e<|ψ U U<|RM f<|bZ U<|δ ?_;refine ae U (by simp[c])<|Ω ?_;refine aA<|γ U<|aX U U ⟨by omega,by omega⟩<|γ U<|δ ?_;exact χ (ih (i+1) d (by omega) (by omega) (by simpa using a)) (ρ.rf U)
def agb(j:Cd C){s:S}(hlen:s.length<1000000)(a:Q (.b (gV s)) h n):ν C (.f 256 [] []) [st s] h n Q:=by
 have rest:WC C Ii [(k0,st s),(k3,st (body s))] h n (fq [.t k2] Q):=by
  have hl:(body s).length<1000000:=by have:=(Bo s).1;omega
  have fin:gV s=(body s).all fP->WC C Eg [(k3,st (body s))] h n (fq [.t k2] Q):=by intro e;refine θ<|ε<|γ U<|δ ?_;exact aj<|χ (aga j hl _ 0 .q U (by omega) (by rw[e]at a;exact a)) (ρ.rf U)
  have no:gV s=false->WC C ab1 [] h n (sq C Eg (fq [.t k2] Q)):=by intro e;refine ε<|γ U<|δ (Γ ⟨_,rfl,by rw[e]at a;exact a⟩)
  by_cases h1:(body s).length=0
  ·refine θ<|ε<|γ U<|bN U<|aS U U<|γ U<|μ U (by simp[h1])<|μ U (by simp[h1])<|aU U (by simp[h1]) U<|γ U<|μ U U<|μ U U<|μ U U<|μ U U<|dM U<|dM U<|dM U<|μ U U<|aU U U U<|δ ?_;exact ah U U (χ (no (by simp[gV,h1])) trivial)
  ·by_cases h2:s=[45,48]
   ·refine θ<|ε<|γ U<|bN U<|aS U U<|γ U<|ζ U (by simp[h1])<|γ U<|ζ U (by simp[h1])<|eC (b:=[45,48]) U U<|aL U (by simp[h1]) U<|γ U<|μ U (by simp[h2])<|μ U (by simp[h2])<|μ U (by simp[h2])<|μ U (by simp[h2])<|dM U<|dM U<|dM U<|μ U (by simp[h2])<|aU U (by simp[h2]) U<|δ ?_;exact ah U U (χ (no (by simp[gV,h2])) trivial)
   ·by_cases k:1<(body s).length
    ·have h0:0<(body s).length:=by omega
     have d:∀(b:S) (h:0<b.length),(b[0].toNat:Int)=(oe b:Nat):=by
      intro b h;cases b with
      | nil=>exact absurd h (by simp)
      | cons c l=>simp[oe]
     have d:=d (body s) h0;by_cases g:oe (body s)=48
     ·refine θ<|ε<|γ U<|bN U<|aS U U<|γ U<|ζ U (by simp[h1])<|γ U<|ζ U (by simp[h1])<|eC (b:=[45,48]) U U<|aL U (by simp[h1]) U<|γ U<|ζ U (by simp[h2])<|γ U<|ζ U (by simp[h2])<|bN U<|ζ U (by simp[h2])<|bC U U<|ζ U (by simp[h2])<|γ U<|ζ U (by simp<;>omega)<|γ U<|ζ U (by simp<;>omega)<|kc U U h0<|ζ U (by simp<;>omega)<|aS U U<|ζ U (by simp[h2])<|aU U (by simp<;>omega) U<|aL U (by simp[h2]) U<|δ ?_;exact ah U (by simp[d,g]) (χ (no (by simp[gV,k,g])) trivial)
     ·refine θ<|ε<|γ U<|bN U<|aS U U<|γ U<|ζ U (by simp[h1])<|γ U<|ζ U (by simp[h1])<|eC (b:=[45,48]) U U<|aL U (by simp[h1]) U<|γ U<|ζ U (by simp[h2])<|γ U<|ζ U (by simp[h2])<|bN U<|ζ U (by simp[h2])<|bC U U<|ζ U (by simp[h2])<|γ U<|ζ U (by simp<;>omega)<|γ U<|ζ U (by simp<;>omega)<|kc U U h0<|ζ U (by simp<;>omega)<|aS U U<|ζ U (by simp[h2])<|aU U (by simp<;>omega) U<|aL U (by simp[h2]) U<|δ ?_;exact ae U (by simp[d]<;>omega) (Ω (χ (fin (by simp[gV,h1,h2,g])) (ρ.rf U)))
    ·refine θ<|ε<|γ U<|bN U<|aS U U<|γ U<|ζ U (by simp[h1])<|γ U<|ζ U (by simp[h1])<|eC (b:=[45,48]) U U<|aL U (by simp[h1]) U<|γ U<|ζ U (by simp[h2])<|γ U<|ζ U (by simp[h2])<|bN U<|ζ U (by simp[h2])<|bC U U<|ζ U (by simp[h2])<|γ U<|μ U (by simp<;>omega)<|μ U (by simp<;>omega)<|μ U (by simp<;>omega)<|ζ U (by simp[h2])<|aL U (by simp<;>omega) U<|aL U (by simp[h2]) U<|δ ?_;exact ae U U (Ω (χ (fin (by simp[gV,h1,h2,k])) (ρ.rf U)))
 refine ν.go j.f256 U ?_;refine ε<|γ U<|δ ?_;refine ε<|γ U<|γ U<|δ ?_;cases s with
 | nil=>
  refine θ<|ε<|γ U<|bN U<|bC U U<|γ U<|μ U (rfl)<|μ U (rfl)<|μ U (rfl)<|aL U (rfl) U<|δ ?_;exact ae U U (Ω (χ rest (ρ.rf U)))
 | cons c l=>
  refine θ<|ε<|γ U<|bN U<|bC U U<|γ U<|ζ U (by simp<;>omega)<|γ U<|ζ U (by simp<;>omega)<|kc U U (by simp)<|ζ U (by simp<;>omega)<|aS U U<|aU U (by simp<;>omega) U<|δ ?_;refine cm U (λi=>?_) (λi=>Ω ?_)
  ·simp only[nz,aW]at i;have hb:body (c::l)=l:=by simp only[body];rw[ao (by omega)]
   refine aA<|γ U<|wz U U U (by simp) (by omega)<|γ U<|δ ?_;rw[hb]at rest;exact χ rest ⟨rfl,by show some (st (List.take _ (List.drop 1 (c::l))))=_;simp,trivial⟩
  ·simp only[nz,cg]at i;have hb:body (c::l)=c::l:=by simp only[body];rw[Θ (by omega)]
   rw[hb]at rest;exact χ rest (ρ.rf U)
def yC(d:Cd C){s:S}(hlen:s.length<1000000)(b:Q (.i .i64 (fm s)) h n):ν C (.f 193 [] []) [st s] h n Q:=by
 refine ν.go d.f193 U ?_;refine ε<|γ U<|δ ?_;refine θ<|ε<|γ U<|ψ U U<|agb d hlen<|bZ U<|δ ?_;refine cm U (λa=>?_) (λa=>Ω ?_)
 ·have hf:gV s=false:=by simpa using a
  refine ε<|γ U<|δ (Γ ⟨_,rfl,by simpa[fm,hf]using b⟩)
 ·have hf:gV s=true:=by simpa using a
  have g:=Jf hf;cases s with
  | nil=>exact absurd rfl g
  | cons c l=>
   refine ε<|γ U<|bN U<|γ U<|δ ?_;refine θ<|ε<|γ U<|kc U U (by simp)<|aS U U<|δ ?_;have e:∀m:Int,m=(body (c::l)).length->Q (.i .i64 (if decide (120<m)=true then 4 else 0)) h n:=by
    intro m hm;simp only[fm,hf,if_true]at b;by_cases h:120<(body (c::l)).length
    ·rw[ao h]at b;rw[ao (by simp<;>omega)];exact b
    ·rw[Θ h]at b;rw[Θ (by simp<;>omega)];exact b
   refine cm U (λa=>?_) (λa=>Ω ?_)
   ·simp only[nz,aW]at a;refine aA<|γ U<|gG U U (⟨by simp<;>omega,by simp at hlen ⊢ <;>omega⟩)<|γ U<|δ ?_;refine ε<|γ U<|bC U U<|ψ U U<|lF d<|γ U<|δ (Γ ⟨_,rfl,e _ (by simp only[body];rw[ao (by omega)];simp)⟩)
   ·simp only[nz,cg]at a;refine ε<|γ U<|bC U U<|ψ U U<|lF d<|γ U<|δ (Γ ⟨_,rfl,e _ (by simp only[body];rw[Θ (by omega)])⟩)
end
section
variable {C:Nat->Option aI}{h:Hf}{n:K}{Q:V->Hf->K->Prop}
def wK(s:S):V:=match jU s with | some (p,q)=>.u [st p,st q,.b true] | none=>.u [.s 0 0,.s 0 0,.b false]
def Ju{s:S}(h:jU s=none):wK s=.u [.s 0 0,.s 0 0,.b false]:=by unfold wK;rw[h]
def agc{s:S}(hlen:s.length<1000000):∀(m i:Nat) (at_:Int),s.length - i=m->i<=s.length->((at_ = -1/\gi (s.take i)=false)\/(∃a:Nat,∃f:a<s.length,at_=(a:Int)/\a<i/\gi (s.take a)=false/\s[a].toNat=47/\gi ((s.take i).drop (a+1))=false))->Q (wK s) h n->WC C ab4 [(k0,st s),(k5,.i .i64 at_),(k6,iN i)] h n (blk 0 (sq C ab5 (fq [.t k2,.t k3,.t k4] Q))):=by
 intro m
 induction m with
 | zero=>
  intro i at_ hm hi hI c;have:i=s.length:=by omega
  subst this;refine ax ?_;refine θ<|ε<|γ U<|γ U<|bN U<|ay U U<|δ ?_;refine ae U (by simp<;>omega)<|aJ ?_;refine θ<|ε<|γ U<|ay U U<|δ ?_;rcases hI with ⟨rfl,h1⟩ | ⟨a,f,rfl,h1,h2,g,j⟩
  ·refine ah U (by simp) ?_;refine ε<|γ U<|γ U<|γ U<|δ ?_;refine Γ ⟨_,rfl,?_⟩;rw[eN]at h1;rw[Ju (by simp[jU,Jg h1])]at c;exact c
  ·refine ae U (by simp<;>omega)<|Ω ?_;have e:jU s=some (s.take a,s.drop (a+1)):=by
    rw[eN]at j;simp[jU,Jh f h2 g,j]
   have l:a<=s.length:=by omega
   refine cX<|ak U<|ak U<|A5 U U U (by omega) l<|ak U<|ak U<|sG U U ⟨by omega,by omega⟩<|A5 U U U (by show a+1<=s.length;omega) (by simp)<|ak U<|ak U<|ak U<|bU (by simp[AG,jD,mn,Nat.testBit]) ?_;refine Γ ⟨_,rfl,?_⟩;unfold wK at c;rw[e]at c;have o:List.take (s.length - (a+1)) (List.drop (a+1) s)=s.drop (a+1):=kI (by simp);show Q (.u [st (List.take (a - 0) (List.drop 0 s)),st (List.take (s.length - (a+1)) (List.drop (a+1) s)),.b true]) h n;rw[o];exact c
 | succ m ih=>
  intro i at_ hm hi hI c;have k:i<s.length:=by omega
  refine ax ?_;refine θ<|ε<|γ U<|γ U<|bN U<|ay U U<|δ ?_;refine ah U (by simp<;>omega)<|Ω ?_;refine θ<|aj<|ε<|γ U<|γ U<|kc U U k<|aS U U<|δ ?_;refine cm U (λd=>?_) (λd=>Ω ?_)
  ·simp only[aW]at d;have d:s[i].toNat=47:=by omega
   refine θ<|ε<|γ U<|dj U U<|δ ?_;rcases hI with ⟨rfl,h1⟩ | ⟨a,f,rfl,h1,h2,g,j⟩
   ·refine ae U (by simp)<|Ω ?_;refine aA<|γ U<|γ U<|δ ?_;refine aA<|γ U<|aX U U ⟨by omega,by omega⟩<|γ U<|δ ?_;refine χ (ih (i+1) (i:Int) (by omega) (by omega) (Or.inr ⟨i,k,rfl,by omega,h1,d,?_⟩) c) (ρ.rf U);rw[oo (by simp<;>omega)];rfl
   ·refine ah U (by simp<;>omega) ?_;refine ε<|γ U<|γ U<|γ U<|δ ?_;refine Γ ⟨_,rfl,?_⟩;have e:jU s=none:=by
     have:gi (s.drop (a+1))=true:=by
      have:s.drop (a+1)=(s.drop (a+1)).take (i - (a+1))++s[i]::s.drop (i+1):=by
       have p:(s.drop (a+1)).drop (i - (a+1))=s[i]::s.drop (i+1):=by rw[List.drop_drop,←eo k];congr 1;omega
       rw[←p,xI]
      rw[this,Rz];simp only[gi,List.any_cons,d,decide_true,Bool.true_or,Bool.or_true]
     simp[jU,Jh f h2 g,this]
    rw[Ju e]at c;exact c
  ·simp only[cg]at d;have d:¬ s[i].toNat=47:=by omega
   refine aA<|γ U<|aX U U ⟨by omega,by omega⟩<|γ U<|δ ?_;refine χ (ih (i+1) at_ ?_ ?_ ?_ c) (ρ.rf U)
   ·clear hI c ih;omega
   ·clear hI c ih;omega
   rcases hI with ⟨rfl,h1⟩ | ⟨a,f,rfl,h1,h2,g,j⟩
   ·refine Or.inl ⟨rfl,?_⟩;rw[afJ k,h1];simp[d]
   ·refine Or.inr ⟨a,f,rfl,by omega,h2,g,?_⟩;have:(s.take (i+1)).drop (a+1)=(s.take i).drop (a+1)++[s[i]]:=by
     rw[fL k,List.drop_append_of_le_length (by simp<;>omega)]
    rw[this,Rz,j];simp[gi,d]
def RN(a:Cd C){s:S}(hlen:s.length<1000000)(b:Q (wK s) h n):ν C (.f 257 [] []) [st s] h n Q:=by refine ν.go a.f257 U ?_;refine ε<|γ U<|γ U<|γ U<|δ ?_;refine ε<|γ U<|δ ?_;refine θ<|ε<|γ U<|δ ?_;exact aj<|χ (agc hlen _ 0 (-1) U (by omega) (Or.inl ⟨rfl,rfl⟩) b) (ρ.rf U)
def RP(b:Cd C){v:V}{l:List Nat}{i:Nat}(hv:aF h n .i64 v l)(hlen:l.length<1000000)(a:Q (.i .i64 (l.getD i 0:Nat)) h n):ν C (.f 352 [] []) [v,iN i] h n Q:=by
 refine ν.go b.f352 U ?_;refine ε<|γ U<|δ ?_;refine θ<|ε<|γ U<|γ U<|al U hv<|ay U U<|δ ?_;by_cases hi:i<l.length
 ·refine ah U (by simp<;>omega) ?_;have e:l.getD i 0=l[i]:=by rw[dH,df hi];rfl
  rw[e]at a;refine ε<|γ U<|γ U<|aB U U hv hi<|ξ U (hv.get hi _)<|γ U<|δ (Γ ⟨_,rfl,a⟩)
 ·refine ae U (by simp<;>omega)<|Ω ?_;have e:l.getD i 0=0:=by rw[dH,qY (by omega)];rfl
  rw[e]at a;refine ε<|γ U<|δ (Γ ⟨_,rfl,a⟩)
end
section
variable {C:Nat->Option aI}{h:Hf}{n:K}{Q:V->Hf->K->Prop}
structure Gr(h0:Hf)(n0:K)(h:Hf)(n:K)(e z:Nat)(v:V)(len:Nat)(cs:List V):Prop where
 ext:Ext h0 n0 h n
 own:ea h e z v len cs
 at_:ea.At v n0 n
section
variable {h0 h':Hf}{n0 n':K}{e z len m:Nat}{v v':V}{cs new:List V}
def Gr.ns(a:Ext h0 n0 h n):Gr h0 n0 h n e z .ns 0 []:=⟨a,ea.ns h e z,Or.inl U⟩
def Gr.lt(a:Gr h0 n0 h n e z v len cs):v=.ns\/v.blk.num<n.num:=a.at_.imp id And.right
def Gr.sl(a:Gr h0 n0 h n e z v len cs):κ h n z v len cs:=a.own.sl a.lt
def Gr.ge(a:Gr h0 n0 h n e z v len cs):v=.ns\/n0.num<=v.blk.num:=a.at_.imp id And.left
def Gr.on(a:Gr h0 n0 h n e z v len cs)(x:Ext h n h' n'):Gr h0 n0 h' n' e z v len cs:=
 ⟨a.ext.trans x,a.own.ext (a.lt.imp id λh=>x.2 _ h),a.at_.imp id λh=>⟨h.1,ep h.2 x.1⟩⟩
def Gr.ab{b:K}(a:Gr h0 n0 h n e z v len cs)(x:bm b h h')(hb:n0.num<=b.num)(hv:v=.ns\/v.blk.num≠b.num):Gr h0 n0 h' n e z v len cs:=
 ⟨a.ext.ab x hb,a.own.ext (hv.imp id λh=>x _ h),a.at_⟩
def Gr.app(a:Gr h0 n0 h n e z v len cs)(c:ea h' e z v' (len+m) (cs++new))(hb:v'.blk=n)(f:n'.num=n.num+1)(hs:∀b:K,b.num<n.num->(v=.ns\/b.num≠v.blk.num)->h' b=h b):Gr h0 n0 h' n' e z v' (len+m) (cs++new):=
 ⟨⟨by have:=a.ext.1;omega,λk d=>by have h1:=a.ext.1;rw[hs k (by omega) (a.ge.imp id λh=>by omega),a.ext.2 k d]⟩,c,Or.inr ⟨by rw[hb];exact a.ext.1,by rw[hb];omega⟩⟩
end
def yD{E:Env}{k:K}{v:V}(h1:lk E k=some v)(c:v.cells=[v])(d:v.one=true){a b:V}:gq E [a,b] [(1,1,.t k)]=some [a,v]:=by simp only[gq,ge,h1,c,dy,jy,aD,d,cL,over];rfl
def EM{E:Env}{k k':K}{v w:V}(h1:lk E k=some v)(c:v.cells=[v])(d:v.one=true)(f:lk E k'=some w)(g:w.cells=[w])(i:w.one=true){a b:V}:gq E [a,b] [(0,1,.t k),(1,1,.t k')]=some [v,w]:=by simp only[gq,ge,h1,f,c,g,dy,jy,aD,d,i,cL,over];rfl
def mW{E:Env}{k:K}{v:V}(h1:lk E k=some v)(b:v.cells=[v])(c:v.one=true){a:V}:gq E [a] [(0,1,.t k)]=some [v]:=by simp only[gq,ge,h1,b,dy,jy,aD,c,cL,over];rfl
def aF.one{k:IntKind}{v:V}{l:List Nat}(a:aF h n k v l):v.one=true:=κ.one a
def aF.cells{k:IntKind}{v:V}{l:List Nat}(a:aF h n k v l):v.cells=[v]:=κ.cells a
def Cl.oJ{b:K}{k:IntKind}{l:List Nat}{e len:Nat}(a:Cl h n b (nC k l) e)(hl:l.length=len):aF h n k (.sl b 0 len len) l:=by subst hl;exact κ.whole a.1 a.2 (by simp[HX])
def aF.pk{k:IntKind}{v:V}{l:List Nat}(a:aF h n k v l):v=.ns\/v.blk.num<n.num:=κ.cP a
def RQ{l:List Nat}{m:Nat}(hm:m<l.length)(h0:l[m]=0):cG (l.take (m+1))=cG (l.take m):=by rw[fL hm,h0,afG]
def RR{l:List Nat}{m:Nat}(hm:m<l.length)(h0:l[m]≠0):cG (l.take (m+1))=l.take (m+1):=by rw[fL hm,afH _ h0]
def agd{sl:V}{neg:Bool}{l:List Nat}{b1 b2:K}(hlen:l.length<1000000)(hv:aF h n .i64 sl l)(c1:Cl h n b1 [.b neg,sl] 310){Q1:Ex->Env->Hf->K->Prop}:
 ∀(m:Nat),m<=l.length->cG l=cG (l.take m)->(∀d E',d<=l.length->cG l=l.take d->ρ [(k1,.p b1 0),(k2,.p b2 0),(k3,iN d)] E'->Q1 .normal E' h n)->WC C ab7 [(k1,.p b1 0),(k2,.p b2 0),(k3,iN m)] h n (blk 0 Q1):=by
 intro m
 induction m with
 | zero=>
  intro hm hs a;refine ax ?_;refine θ<|ε<|γ U<|bC U U<|γ U<|μ U (by simp)<|μ U (by simp)<|μ U (by simp)<|μ U (by simp)<|μ U (by simp)<|μ U (by simp)<|μ U (by simp)<|aL U (by simp) U<|δ ?_;refine ae U U<|aJ (a 0 _ hm (by simpa[cG]using hs) (ρ.rf U))
 | succ m ih=>
  intro hm hs a;have c:m<l.length:=by omega
  have e:((m+1:Nat):Int) - 1=(m:Nat):=by omega
  have g:=hv.get c 1;refine ax ?_;refine θ<|ε<|γ U<|bC U U<|γ U<|ζ U (by simp<;>omega)<|σ U<|ζ U (by simp<;>omega)<|ξ U (c1.ld U _)<|ζ U (by simp<;>omega)<|γ U<|ζ U (by simp<;>omega)<|jR U U e ⟨by omega,by omega⟩<|ζ U (by simp<;>omega)<|aB U U hv c<|ζ U (by simp<;>omega)<|ξ U g<|ζ U (by simp<;>omega)<|aS U U<|aU U (by simp<;>omega) U<|δ ?_;refine cm U (λf=>?_) (λf=>?_)
  ·simp only[aW]at f;refine Ω ?_;refine aj<|aA<|γ U<|jR U U e ⟨by omega,by omega⟩<|γ U<|δ ?_;exact χ (ih (by omega) (by rw[hs,RQ c (by omega)]) a) (ρ.rf U)
  ·simp only[cg]at f;exact aJ (a (m+1) _ hm (by rw[hs,RR c (by omega)]) (ρ.rf U))
def RS{a b:V}{o:Nat}(h:o=0+1){v:V}(c:v.cells=[v])(d:v.one=true):ju [a,b] 0 o 1 v=some [a,v]:=by subst h;simp only[ju,c,aD,d,dy,jy,cL,over];rfl
def EN{a b:V}{v:V}(c:v.cells=[v])(d:v.one=true):ju [a,b] 0 (0+0) 1 v=some [v,b]:=by simp only[ju,c,aD,d,dy,jy,cL,over];rfl
def pE{a b c d:V}(f:aD [c,d]=true):ju [a,b] 0 0 2 (.a [c,d])=some [c,d]:=cj rfl rfl f
def uI(x:Cd C){sl:V}{neg:Bool}{l:List Nat}(hlen:l.length<1000000)(hv:aF h n .i64 sl l)
 (y:∀c v' h' n',Ext h n h' n'->aF h' n .i64 v' (cG l)->v'.blk=sl.blk/\(sl=.ns->v'=.ns)/\(neg=false->c=false)->Q (.a [.b c,v']) h' n'):ν C (.f 304 [] []) [.a [.b neg,sl]] h n Q:=by
 refine ν.go x.f304 U ?_;have h1:=hv.one;refine ε<|cR U U (iz rfl h1) <| λh1 n1 M A B=>bA <| λh2 d N D s=>δ ?_;have c1:Cl h2 d n [.b neg,sl] 310:=Cl.ext ⟨by omega,A⟩ s;have c2:Cl h2 d n1 [.b false,.ns] 310:=⟨by omega,D⟩;have o:=B.trans s;have q:aF h2 n .i64 sl l:=hv.at_ o;refine ε<|σ U<|ξ U (c1.ld U _)<|al U q<|γ U<|δ ?_;refine θ<|aj<|χ (agd (b2:=n1) hlen (q.up o.1) c1 _ (φ _) (by rw[eN]) ?_) (ρ.rf U);intro m E' hm hs E;refine bS E ?_;have fin:∀c v' h',bm n h2 h'->Cl h' d n [.b c,v'] 310->aF h' n .i64 v' (cG l)->v'.blk=sl.blk/\(sl=.ns->v'=.ns)/\(neg=false->c=false)->WC C ab8 [(k1,.p n 0),(k2,.p n1 0)] h' d (fq [.cell k2 true 2] Q):=by intro c v' h' b' c' t F;have h1:=t.one;have G:=c2.ab b' (by omega);have H:Ext h n h' d:=o.ab b' (by omega);refine ε<|ξ U (bc c'.2 rfl)<|aH U U G.2 (pE (iz rfl h1)) <| λg i b4=>δ ?_;refine Γ ⟨_,jE rfl (bc i rfl),?_⟩;exact y _ _ _ _ (H.ab b4 (by omega)) (t.A8 b4 (by omega)) F
 refine ε<|σ U<|ξ U (c1.ld U _)<|γ U<|A6 U q U U (by omega) hm <| λj r l3=>σ U<|aH U U c1.2 (RS rfl (κ.cells r) (κ.one r)) <| λg i b4=>δ ?_;have u:aF g n .i64 j (cG l):=by have:=(aF.sub r hm).A8 b4 (φ _);rw[gb,mF,←hs]at this;exact this
 have c4:Cl g d n [.b neg,j] 310:=⟨c1.1,i⟩;refine θ<|ε<|γ U<|aS U U<|δ ?_;refine cm U (λI=>?_) (λI=>Ω ?_)
 ·refine aA<|σ U<|aH U U i (EN rfl rfl) <| λJ L b5=>δ ?_;exact χ (fin false j J (λk w=>by rw[b5 k w,b4 k w]) ⟨c1.1,L⟩ (u.A8 b5 (φ _)) ⟨l3.2.1,l3.2.2,λ_=>rfl⟩) (ρ.rf U)
 ·exact χ (fin neg j g b4 c4 u ⟨l3.2.1,l3.2.2,id⟩) (ρ.rf U)
end
section
variable {C:Nat->Option aI}{h:Hf}{n:K}{Q:V->Hf->K->Prop}
def gW{l:List Nat}{i:Nat}(hi:i<l.length):l.getD i 0=l[i]:=by rw[dH,df hi];rfl
def wL{m:Made}{p:PR}{b:PB}(h1:p.val (fE b.h p.Ξ m))(h2:p.val (fE b.h' p.Ξ m)):mn m p b:=by
 unfold mn;cases (Nat.testBit p.Ξ b.i||Nat.testBit b.Ξ p.i)
 ·exact⟨h1,h2⟩
 ·trivial
def bH{m:Made}{i Ξ a b sz:Nat}{agg:Bool}{p v:V}{H H':Hf}(h1:bj (fE H Ξ m) agg sz p=some v)(h2:bj (fE H' Ξ m) agg sz p=some v):mn m ⟨i,Ξ,λg=>bj g agg sz p=some v⟩ ⟨a,b,H,H'⟩:=wL h1 h2
def ω{m:Made}{p:PR}{b:PB}(h:(Nat.testBit p.Ξ b.i||Nat.testBit b.Ξ p.i)=true):mn m p b:=by unfold mn;rw[h];trivial
def agf(z:Cd C){va vb:V}{a b:List Nat}{h0:Hf}{n0:K}(T:a.length<1000)(W:b.length<1000)(A:Sm 10000 a)(hb:Sm 10000 b)(q:aF h0 n0 .i64 va a)(ib:aF h0 n0 .i64 vb b){Q1:Ex->Env->Hf->K->Prop}:
 ∀(m i:Nat) (out:List Nat) (bo:Nat) (vo:V) (h:Hf) (n:K),a.length - i=m->i<=a.length->out.length=i->Sm 10000 out->bo<=1->val 10000 out+val 10000 (b.take i)=val 10000 (a.take i)+bo*10000 ^ i->Gr h0 n0 h n 3 1 vo out.length (nC .i64 out)->(∀(out:List Nat) (bo:Nat) (vo:V) (h:Hf) (n:K) E',out.length=a.length->Sm 10000 out->bo<=1->val 10000 out+val 10000 (b.take a.length)=val 10000 a+bo*10000 ^ a.length->Gr h0 n0 h n 3 1 vo out.length (nC .i64 out)->ρ [(k5,vo)] E'->Q1 .normal E' h n)->WC C PX [(k0,va),(k1,vb),(k5,vo),(k6,iN bo),(k7,iN i)] h n (blk 0 Q1):=by
 intro m
 induction m with
 | zero=>
  intro i out bo vo h n hm hi r hs u hv g l;have e:i=a.length:=by omega
  refine ax ?_;refine θ<|ε<|γ U<|γ U<|al U q<|ay U U<|δ ?_;refine ae U (by simp<;>omega)<|aJ ?_;subst e;rw[eN]at hv;exact l out bo vo h n _ (by omega) hs u hv g (ρ.rf U)
 | succ m ih=>
  intro i out bo vo h n hm hi r hs u hv g l;have p:i<a.length:=by omega
  have v:=q.at_ g.ext;have D:=ib.at_ g.ext;have X:a[i]<10000:=A.get p;have Y:=hb.getD (by decide) i;have s:=v.get p 1;have w:=rI (B:=10000) a i;have E:=rI (B:=10000) b i;rw[gW p]at w;refine ax ?_;refine θ<|ε<|γ U<|γ U<|al U q<|ay U U<|δ ?_;refine ah U (by simp<;>omega)<|Ω ?_;generalize F:b.getD i 0=bd at*;generalize Z:a[i]=k at*;have G:∀{Q:V->Hf->K->Prop},Q (iN bd) h n->ν C (.f 352 [] []) [vb,iN i] h n Q:=λl=>RP z (D.up g.ext.1) (by omega) (by rw[F];exact l);refine θ<|aj<|cX<|ak U<|ak U<|cK U U v p<|aC U s U (by simp[cI,fS,cB,ic])<|ak U<|ak U<|aY U U<|G<|yn U U ⟨by omega,by omega⟩<|ak U<|yn U U ⟨by omega,by omega⟩<|ak U<|bU (⟨⟨wL s s,trivial⟩,trivial⟩) ?_;refine ε<|γ U<|δ ?_;refine θ<|ε<|γ U<|ay U U<|δ ?_;have fin:∀(d j:Nat),d<10000->j<=1->((d:Int)=(k:Int) - (bd:Int) - (bo:Int)+j*10000)->WC C acf [(k5,vo),(k8,iN d),(k0,va),(k1,vb),(k6,iN j),(k7,iN i)] h n (blk 1 (sq C acg (sq C (.loop Ij) (blk 0 Q1)))):=by
   intro d j o H he;refine aA<|γ U<|γ U<|eg U <| λh1 n1 cA I t=>jF U ((g.on t).own) U (κ.whole (len:=1) (by omega) I rfl) (by omega) (by omega) (by omega) (by omega) U ((g.on t).lt) <| λJ h2 L M N O P=>γ U<|δ ?_;have y:=(g.on t).app M N O P;have R:nC .i64 out++[iN d]=nC .i64 (out++[d]):=by rw[HY];rfl
   rw[R]at y;refine aA<|γ U<|aX U U ⟨by omega,by omega⟩<|γ U<|δ ?_;refine χ (ih (i+1) (out++[d]) j J h2 L (by omega) (by omega) (by simp[r]) ?_ H ?_ (by rw[gp];exact y) l) (ρ.rf U)
   ·intro x c;rcases gQ.1 c with c | c
    ·exact hs x c
    ·simp at c;rw[c];exact o
   ·rw[uG,w,E,r];simp only[val,jx,hJ];have S:d+bd+bo=k+j*10000:=by omega
    have e3:10000 ^ i*d+10000 ^ i*bd+10000 ^ i*bo=10000 ^ i*k+j*10000 ^ (i+1):=by rw[←eV,←eV,S,eV,fy];congr 1;rw[cT j 10000,←gn,cT]
    have e4:bo*10000 ^ i=10000 ^ i*bo:=cT _ _;omega
  refine cm U (λc=>?_) (λc=>?_)
  ·simp only[aW]at c;obtain⟨d,o⟩:∃d:Nat,(d:Int)=(k:Int) - (bd:Int) - (bo:Int)+10000:=⟨((k:Int) - (bd:Int) - (bo:Int)+10000).toNat,by omega⟩;refine ε<|γ U<|gT U U o.symm ⟨by omega,by omega⟩<|γ U<|δ ?_;refine aA<|γ U<|δ ?_;exact χ (fin d 1 (by omega) (by omega) (by omega)) (ρ.rf U)
  ·simp only[cg]at c;obtain⟨d,o⟩:∃d:Nat,(d:Int)=(k:Int) - (bd:Int) - (bo:Int):=⟨((k:Int) - (bd:Int) - (bo:Int)).toNat,by omega⟩;refine Ω ?_;rw[←o];exact χ (fin d 0 (by omega) (by omega) (by omega)) (ρ.rf U)
def agi(c:Cd C){va vb:V}{a b:List Nat}(j:a.length<1000)(k:b.length<1000)(g:Sm 10000 a)(hb:dC 10000 b)(l:aF h n .i64 va a)(ib:aF h n .i64 vb b)(hle:val 10000 b<=val 10000 a)
 (m:∀v' l' h' n',Ext h n h' n'->aF h' n' .i64 v' l'->dC 10000 l'->val 10000 l'=val 10000 a - val 10000 b->(v'=.ns\/n.num<=v'.blk.num)->Q v' h' n'):ν C (.f 333 [] []) [va,vb] h n Q:=by
 refine ν.go c.f333 U ?_;refine ε<|γ U<|δ ?_;refine ε<|γ U<|δ ?_;refine ε<|γ U<|δ ?_;refine θ<|ε<|γ U<|δ ?_;refine aj<|χ (agf c j k g hb.1 l ib _ 0 [] 0 .ns h n rfl (by omega) U Sm.nil (by omega) (by simp[val]) (Gr.ns (Ext.refl h n)) ?_) (ρ.rf U);intro out bo vo h1 n1 E' hl hs u hv d o;refine bS o ?_;have p:b.length<=a.length:=nV hb.2 g (by omega) hle;rw[kI p]at hv;have h2:=nT hs;rw[hl]at h2;have q:bo=0:=by
  rcases iG 0 bo with h | h
  ·have:bo=1:=by omega
   subst this;omega
  ·omega
 subst q;have e:aF h1 n1 .i64 vo out:=d.sl;refine ε<|γ U<|ji (yD rfl e.cells e.one)<|ψ U U<|uI c (by omega) e <| λv r h2 s i t k2=>sI U U<|γ U<|δ ?_;refine Γ ⟨_,rfl,m r (cG out) h2 s (d.ext.trans i) (t.up i.1) (pB hs) (by rw[nU];omega) (d.ge.imp k2.2.1 λh=>by rw[k2.1];exact h)⟩
end
section
variable {C:Nat->Option aI}{h:Hf}{n:K}{Q:V->Hf->K->Prop}
def agk{va vb:V}{a b:List Nat}(p:a.length<1000)(hl:a.length=b.length)(o:Sm 10000 a)(hb:Sm 10000 b)(g:aF h n .i64 va a)(ib:aF h n .i64 vb b)(d:Q (.i .i64 (fk (val 10000 a) (val 10000 b))) h n):
 ∀(m:Nat),m<=a.length->a.drop m=b.drop m->WC C acb [(k0,va),(k1,vb),(k5,.i .i64 ((m:Int) - 1))] h n (blk 0 (sq C acd (fq [.t k4] Q))):=by
 intro m
 induction m with
 | zero=>
  intro hm j;have:a=b:=by simpa using j
  subst this;refine ax ?_;refine θ<|ε<|γ U<|dj U U<|δ ?_;refine ae U (by simp<;>omega)<|aJ ?_;refine ε<|γ U<|δ (Γ ⟨_,rfl,by rw[Rw]at d;exact d⟩)
 | succ m ih=>
  intro hm j;have c:m<a.length:=by omega
  have f:m<b.length:=by omega
  have e:((m+1:Nat):Int) - 1=(m:Nat):=by omega
  rw[e];have g1:=g.get c 1;have k:=ib.get f 1;refine ax ?_;refine θ<|ε<|γ U<|dj U U<|δ ?_;refine ah U (by simp<;>omega)<|Ω ?_;refine θ<|aj<|θ<|cX<|ak U<|ak U<|cK U U g c<|aC U g1 U (by simp[cI,fS,cB,ic])<|ak U<|ak U<|cK U U ib f<|aC U k U (by simp[cI,fS,cB,ic])<|HR U U<|bU (by simp[AG,jD,mn,Nat.testBit]) ?_;by_cases l:a[m]=b[m]
  ·refine ae U (by simp<;>omega)<|Ω ?_;refine cX<|ak U<|ak U<|cK U U g c<|aC U g1 U (by simp[cI,fS,cB,ic])<|ak U<|ak U<|cK U U ib f<|aC U k U (by simp[cI,fS,cB,ic])<|sH U U<|bU (by simp[AG,jD,mn,Nat.testBit]) ?_;refine ae U (by simp<;>omega)<|Ω ?_;refine aA<|γ U<|gG U U ⟨by omega,by omega⟩<|γ U<|δ ?_;refine χ (ih (by omega) ?_) (ρ.rf U);rw[eo c,eo f,j,l]
  ·rw[Rv o hb hl c j l]at d;by_cases h1:a[m]<b[m]
   ·refine ah U (by simp<;>omega) ?_;refine ε<|γ U<|δ (Γ ⟨_,rfl,by simpa[fk,h1]using d⟩)
   ·refine ae U (by simp<;>omega)<|Ω ?_;refine cX<|ak U<|ak U<|cK U U g c<|aC U g1 U (by simp[cI,fS,cB,ic])<|ak U<|ak U<|cK U U ib f<|aC U k U (by simp[cI,fS,cB,ic])<|sH U U<|bU (by simp[AG,jD,mn,Nat.testBit]) ?_;refine ah U (by simp<;>omega) ?_;refine ε<|γ U<|δ (Γ ⟨_,rfl,by simpa[fk,h1,show b[m]<a[m] by omega]using d⟩)
def RT(g:Cd C){va vb:V}{a b:List Nat}(j:a.length<1000)(k:b.length<1000)(e:dC 10000 a)(hb:dC 10000 b)(c:aF h n .i64 va a)(ib:aF h n .i64 vb b)(d:Q (.i .i64 (fk (val 10000 a) (val 10000 b))) h n):ν C (.f 350 [] []) [va,vb] h n Q:=by
 refine ν.go g.f350 U ?_;refine ε<|γ U<|δ ?_;refine θ<|ε<|γ U<|al U c<|γ U<|al U ib<|dR U U<|δ ?_;by_cases hl:a.length=b.length
 ·refine ae U (by simp[hl])<|Ω ?_;refine θ<|ε<|γ U<|al U c<|gG U U ⟨by omega,by omega⟩<|γ U<|δ ?_;exact aj<|χ (agk j hl e.1 hb.1 c ib d a.length (φ _) (by rw[jw,hl,jw])) (ρ.rf U)
 ·rw[Ru e hb (by omega) hl]at d;refine ah U (by simp<;>omega) ?_;refine θ<|ε<|γ U<|al U c<|γ U<|al U ib<|ay U U<|δ ?_;by_cases h1:a.length<b.length
  ·refine ah U (by simp<;>omega) ?_;refine ε<|γ U<|δ (Γ ⟨_,rfl,by simpa[fk,h1]using d⟩)
  ·refine ae U (by simp<;>omega)<|Ω ?_;refine ε<|γ U<|δ (Γ ⟨_,rfl,by simpa[fk,h1,show b.length<a.length by omega]using d⟩)
structure Pr(h0:Hf)(n0:K)(h:Hf)(n:K)(b2 b3 bo:K)(na nb:Bool)(va vb:V)(L:Nat)(out:List Nat):Prop where
 ext:Ext h0 n0 h n
 c2:Cl h n b2 [.b na,va] 310
 c3:Cl h n b3 [.b nb,vb] 310
 co:Cl h n bo (nC .i64 out) 3
 lo:n0.num<=bo.num
 ne2:b2.num≠bo.num
 zy:b3.num≠bo.num
 len:out.length=L
 sm:Sm 10000 out
def Pr.set{h0:Hf}{n0:K}{b2 b3 bo:K}{na nb:Bool}{va vb:V}{L:Nat}{out:List Nat}(p:Pr h0 n0 h n b2 b3 bo na nb va vb L out){i x:Nat}{h':Hf}(d:x<10000)(a:h' bo=some (.c (nC .i64 (out.set i x)) 3 0))(b:bm bo h h'):Pr h0 n0 h' n b2 b3 bo na nb va vb L (out.set i x):=
 ⟨p.ext.ab b p.lo,p.c2.ab b p.ne2,p.c3.ab b p.zy,⟨p.co.1,a⟩,p.lo,p.ne2,p.zy,by rw[gZ];exact p.len,p.sm.set d⟩
def uJ{l:List Nat}{i j x:Nat}:(l.set i x).getD j 0=if i=j/\i<l.length then x else l.getD j 0:=by
 rw[dH,dH,List.getElem?_set];by_cases h:i=j
 ·subst h;by_cases h2:i<l.length
  ·simp[h2]
  ·simp[h2,qY (show l.length<=i by omega)]
 ·simp[h]
section
variable {h0:Hf}{n0 b2 b3 bo:K}{na nb:Bool}{va vb x4:V}{a b:List Nat}
def RU(r:Cd C)(D:a.length<1000)(E:b.length<1000)(s:Sm 10000 a)(hb:Sm 10000 b)(t:aF h0 n0 .i64 va a)(ib:aF h0 n0 .i64 vb b){i:Nat}(hi:i<a.length){out:List Nat}{carry j:Nat}
 (p:Pr h0 n0 h n b2 b3 bo na nb va vb (a.length+b.length+1) out)(F:carry<10000)(hj:j<=b.length){Q1:Ex->Env->Hf->K->Prop}
 (e:∀h' E',Pr h0 n0 h' n b2 b3 bo na nb va vb (a.length+b.length+1) (out.set (i+j) ((out.getD (i+j) 0+a[i]*b.getD j 0+carry) % 10000))->ρ [(k2,.p b2 0),(k3,.p b3 0),(k4,x4),(k5,.sl bo 0 (a.length+b.length+1) (a.length+b.length+1)),(k6,iN i),(k7,.i .i64 ((out.getD (i+j) 0+a[i]*b.getD j 0+carry) / 10000:Nat)),(k8,iN j)] E'->Q1 .normal E' h' n):
 WC C ace [(k2,.p b2 0),(k3,.p b3 0),(k4,x4),(k5,.sl bo 0 (a.length+b.length+1) (a.length+b.length+1)),(k6,iN i),(k7,iN carry),(k8,iN j)] h n Q1:=by
 have io:aF h n .i64 (.sl bo 0 (a.length+b.length+1) (a.length+b.length+1)) out:=p.co.oJ p.len;have u:i+j<a.length+b.length+1:=by omega
 have c:i+j<out.length:=by rw[p.len];exact u
 have go:=io.get c 1;have g:=t.at_ p.ext;have k:=g.get hi 1;have l:=(ib.at_ p.ext).up p.ext.1;have G:out[i+j]<10000:=p.sm.get c;have H:a[i]<10000:=s.get hi;have I:b.getD j 0<10000:=hb.getD (by omega) j;rw[gW c]at e;have v:∀{Q:V->Hf->K->Prop},Q (.i .i64 (b.getD j 0:Nat)) h n->ν C (.f 352 [] []) [vb,iN j] h n Q:=λe=>RP r l (by omega) e;generalize J:out[i+j]=m at*;generalize L:a[i]=d at*;generalize M:b.getD j 0=bd at*;have hmul:d*bd<=9999*9999:=ua (by omega) (by omega);have w:(d:Int)*(bd:Int)=(d*bd:Nat):=by simp
 have o:bj h false 1 (.p b2 (0+1))=some va:=p.c2.ld U _;have q:bj h false 1 (.p b3 (0+1))=some vb:=p.c3.ld U _;have y:bk n va=true:=g.up p.ext.1 |>.below (φ _);have z:bk n vb=true:=l.below (φ _);refine cX<|ak U<|ak U<|ak U<|A9 U U U ⟨by omega,by omega⟩<|cK U U io c<|aC U go U (by simp[cI,fS,cB,ic])<|bG U<|aC U o y (κ.cH g)<|ak U<|cK U U g hi<|aC U k U (by simp[cI,fS,cB,ic])<|bG U<|aC U q z (κ.cH l)<|ak U<|aY U U<|v<|wB U U w ⟨by omega,by omega⟩<|sG U U ⟨by omega,by omega⟩<|ak U<|sG U U ⟨by omega,by omega⟩<|ak U<|bU (⟨⟨wL q q,trivial⟩,⟨⟨wL k k,trivial⟩,⟨⟨wL o o,trivial⟩,⟨⟨wL go go,trivial⟩,trivial⟩⟩⟩⟩) ?_;have A:(m:Int)+(d*bd:Nat)+(carry:Int)=((m+d*bd+carry:Nat):Int):=by omega
 rw[A];generalize N:m+d*bd+carry=x at*;refine ε<|γ U<|γ U<|γ U<|gT U U U ⟨by omega,by omega⟩<|γ U<|D8 (b:=10000) U U (by omega)<|aB U U io c<|aH U U p.co.2 (uy c _ (by simp[V.off])) <| λh1 B b1=>δ ?_;refine aA<|γ U<|A4 (b:=10000) U U (by omega) ⟨by omega,by omega⟩<|γ U<|δ ?_;exact e h1 _ (p.set (j4 _ (by omega)) B b1) (ρ.rf U)
def agm(u:Cd C)(v:a.length<1000)(w:b.length<1000)(q:Sm 10000 a)(hb:Sm 10000 b)(x:aF h0 n0 .i64 va a)(ib:aF h0 n0 .i64 vb b){i:Nat}(hi:i<a.length)(V0:Nat){Q1:Ex->Env->Hf->K->Prop}
 (y:∀out h' E',Pr h0 n0 h' n b2 b3 bo na nb va vb (a.length+b.length+1) out->val 10000 out=V0+a[i]*val 10000 b*10000 ^ i->(∀k,i+1+b.length<=k->out.getD k 0=0)->ρ [(k2,.p b2 0),(k3,.p b3 0),(k4,x4),(k5,.sl bo 0 (a.length+b.length+1) (a.length+b.length+1)),(k6,iN i)] E'->Q1 .normal E' h' n):
 ∀(m j:Nat) (out:List Nat) (carry:Nat) (h:Hf),b.length - j=m->j<=b.length->Pr h0 n0 h n b2 b3 bo na nb va vb (a.length+b.length+1) out->carry<10000->val 10000 out+carry*10000 ^ (i+j)=V0+a[i]*val 10000 (b.take j)*10000 ^ i->(∀k,i+b.length<=k->out.getD k 0=0)->WC C PW [(k2,.p b2 0),(k3,.p b3 0),(k4,x4),(k5,.sl bo 0 (a.length+b.length+1) (a.length+b.length+1)),(k6,iN i),(k7,iN carry),(k8,iN j)] h n (blk 2 Q1):=by
 intro m
 induction m with
 | zero=>
  intro j out carry h hm hj p f hv g;have A:j=b.length:=by omega
  subst A;have l:=ib.at_ p.ext;rw[eN]at hv;refine ax ?_;by_cases h0:carry=0
  ·subst h0;refine θ<|ε<|γ U<|σ U<|ξ U (p.c3.ld U _)<|al U l<|ay U U<|γ U<|ζ U (by simp)<|γ U<|ζ U (by simp)<|bC U U<|aL U (by simp) U<|δ ?_;refine ae U U<|aJ (y out h _ p (by omega) (λk r=>g k (by omega)) (ρ.rf U))
  ·refine θ<|ε<|γ U<|σ U<|ξ U (p.c3.ld U _)<|al U l<|ay U U<|γ U<|ζ U (by simp)<|γ U<|ζ U (by simp)<|bC U U<|aL U (by simp) U<|δ ?_;refine ah U (by simp<;>omega)<|Ω<|θ<|aj ?_;have s:=g (i+b.length) (by omega);have z:b.getD b.length 0=0:=by simp
   have e:i+b.length<out.length:=by rw[p.len];omega
   refine χ (RU u v w q hb x ib hi p f (φ _) ?_) (ρ.rf U);intro h1 E1 d s1;simp only[s,z,jx,eW,tZ f]at d;simp only[s,z,jx,eW,Nat.div_eq_of_lt f]at s1;refine bS s1 ?_;refine aA<|γ U<|aX U U ⟨by omega,by omega⟩<|γ U<|δ ?_;refine ax ?_;have D:=ib.at_ d.ext;refine θ<|ε<|γ U<|σ U<|ξ U (d.c3.ld U _)<|al U D<|ay U U<|γ U<|ζ U (by simp<;>omega)<|γ U<|ζ U (by simp<;>omega)<|bC U U<|aL U (by simp<;>omega) U<|δ ?_;have vs:=EE (B:=10000) out e carry;have E:out[i+b.length]=0:=by rw[←gW e];exact s
   rw[E,jx,hJ,cT (10000 ^ (i+b.length))]at vs;refine ae U U<|aJ (y _ h1 _ d (by rw[vs];exact hv) (λk r=>?_) (ρ.rf U));rw[uJ,Θ (by omega)];exact g k (by omega)
 | succ m ih=>
  intro j out carry h hm hj p f hv g;have H:j<b.length:=by omega
  have l:=ib.at_ p.ext;have e:i+j<out.length:=by rw[p.len];omega
  refine ax ?_;refine θ<|ε<|γ U<|σ U<|ξ U (p.c3.ld U _)<|al U l<|ay U U<|γ U<|μ U (by simp<;>omega)<|μ U (by simp<;>omega)<|aU U (by simp<;>omega) U<|δ ?_;refine ah U U<|Ω<|θ<|aj ?_;refine χ (RU u v w q hb x ib hi p f hj ?_) (ρ.rf U);intro h1 E1 d s1;refine bS s1 ?_;have I:out[i+j]<10000:=p.sm.get e;have J:a[i]<10000:=q.get hi;have L:b.getD j 0<10000:=hb.getD (by omega) j;have F:=rI (B:=10000) b j;rw[gW e]at d s1 ⊢;have vs:=EE (B:=10000) out e ((out[i+j]+a[i]*b.getD j 0+carry) % 10000);generalize M:out[i+j]=o at*;generalize N:a[i]=c at*;generalize O:b.getD j 0=bd at*;have hmul:c*bd<=9999*9999:=ua (by omega) (by omega);refine aA<|γ U<|aX U U ⟨by omega,by omega⟩<|γ U<|δ ?_;refine χ (ih (j+1) _ _ h1 (by omega) (by omega) d (by omega) ?_ (λk r=>?_)) (ρ.rf U)
  ·have P:=tY (o+c*bd+carry) 10000;generalize (o+c*bd+carry) / 10000=t at*;generalize (o+c*bd+carry) % 10000=rx at*;rw[F];have R:10000 ^ (i+j)*o+10000 ^ (i+j)*(c*bd)+10000 ^ (i+j)*carry=10000 ^ (i+j)*rx+10000 ^ (i+j)*(10000*t):=by
    rw[←eV,←eV,←eV];congr 1;omega
   have S:t*10000 ^ (i+(j+1))=10000 ^ (i+j)*(10000*t):=by rw[←j3,fy,cT,gn]
   have G:c*(val 10000 (List.take j b)+10000 ^ j*bd)*10000 ^ i=c*val 10000 (List.take j b)*10000 ^ i+10000 ^ (i+j)*(c*bd):=by rw[eV,fM];congr 1;rw[Nat.pow_add];simp only[cT,Nat.mul_left_comm,gn]
   have T:carry*10000 ^ (i+j)=10000 ^ (i+j)*carry:=cT _ _;rw[G];omega
  ·rw[uJ,Θ (by omega)];exact g k r
def agn(g:Cd C)(j:a.length<1000)(l:b.length<1000)(o:Sm 10000 a)(hb:Sm 10000 b)(c:aF h0 n0 .i64 va a)(ib:aF h0 n0 .i64 vb b){Q1:Ex->Env->Hf->K->Prop}
 (q:∀out h' E',Pr h0 n0 h' n b2 b3 bo na nb va vb (a.length+b.length+1) out->val 10000 out=val 10000 a*val 10000 b->ρ [(k2,.p b2 0),(k3,.p b3 0),(k4,x4),(k5,.sl bo 0 (a.length+b.length+1) (a.length+b.length+1))] E'->Q1 .normal E' h' n):
 ∀(m i:Nat) (out:List Nat) (h:Hf),a.length - i=m->i<=a.length->Pr h0 n0 h n b2 b3 bo na nb va vb (a.length+b.length+1) out->val 10000 out=val 10000 (a.take i)*val 10000 b->(∀k,i+b.length<=k->out.getD k 0=0)->WC C PV [(k2,.p b2 0),(k3,.p b3 0),(k4,x4),(k5,.sl bo 0 (a.length+b.length+1) (a.length+b.length+1)),(k6,iN i)] h n (blk 0 Q1):=by
 intro m
 induction m with
 | zero=>
  intro i out h hm hi p hv e;have ei:i=a.length:=by omega
  subst ei;have d:=c.at_ p.ext;rw[eN]at hv;refine ax ?_;refine θ<|ε<|γ U<|σ U<|ξ U (p.c2.ld U _)<|al U d<|ay U U<|δ ?_;exact ae U (by simp)<|aJ (q out h _ p hv (ρ.rf U))
 | succ m ih=>
  intro i out h hm hi p hv e;have f:i<a.length:=by omega
  have d:=c.at_ p.ext;refine ax ?_;refine θ<|ε<|γ U<|σ U<|ξ U (p.c2.ld U _)<|al U d<|ay U U<|δ ?_;refine ah U (by simp<;>omega)<|Ω ?_;refine θ<|aj<|ε<|γ U<|δ ?_;refine ε<|γ U<|δ ?_;refine aj<|χ (agm g j l o hb c ib f (val 10000 out) ?_ _ 0 out 0 h rfl (by omega) p (by omega) (by simp[val]) e) (ρ.rf U);intro r h1 E1 s v1 t s1;refine bS s1 ?_;refine aA<|γ U<|aX U U ⟨by omega,by omega⟩<|γ U<|δ ?_;refine χ (ih (i+1) r h1 (by omega) (by omega) s ?_ t) (ρ.rf U);rw[v1,hv,rI,gW f,fM];congr 1;simp only[cT,Nat.mul_left_comm,gn]
end
def ago(l:Cd C){va vb:V}{a b:List Nat}(B:a.length<1000)(D:b.length<1000)(E:Sm 10000 a)(hb:Sm 10000 b)(s:aF h n .i64 va a)(ib:aF h n .i64 vb b)
 (F:∀m v' l' h' n',Ext h n h' n'->aF h' n' .i64 v' l'->dC 10000 l'->val 10000 l'=val 10000 a*val 10000 b->Q (.a [.b m,v']) h' n'):ν C (.f 362 [] []) [.a [.b false,va],.a [.b false,vb]] h n Q:=by
 refine ν.go l.f362 U ?_;have h1:=s.one;have G:=ib.one;refine ε<|cR U U (iz rfl h1) <| λh1 n1 X H I=>cR U U (iz rfl G) <| λh2 t Y J u=>bA <| λg d Z L o=>δ ?_;have M:=I.trans u;have e:=M.trans o;have c1:Cl g d n [.b false,va] 310:=Cl.ext (Cl.ext ⟨by omega,H⟩ u) o;have c2:Cl g d n1 [.b false,vb] 310:=Cl.ext ⟨by omega,J⟩ o;have c3:Cl g d t [.b false,.ns] 310:=⟨by omega,L⟩;have i:=s.at_ e;have j:=ib.at_ e;refine ε<|σ U<|ξ U (c1.ld U _)<|al U i<|σ U<|ξ U (c2.ld U _)<|al U j<|gT U U (show(a.length:Int)+(b.length:Int)=((a.length+b.length:Nat):Int) from rfl) ⟨by omega,by omega⟩<|gT U U (show((a.length+b.length:Nat):Int)+1=((a.length+b.length+1:Nat):Int) from rfl) ⟨by omega,by omega⟩<|pA U U (by omega) (by omega) <| λv w jZ x q=>γ U<|δ ?_;rw[wA]at x;have i:=i.up e.1;have j:=j.up e.1;have p:Pr g d v w n n1 d false false va vb (a.length+b.length+1) (List.replicate (a.length+b.length+1) 0):=
  ⟨q,c1.ext q,c2.ext q,⟨by omega,x⟩,φ _,by omega,by omega,by simp,Sm.rep (by omega) _⟩
 refine θ<|ε<|γ U<|δ ?_;refine aj<|χ (agn l B D E hb i j ?_ _ 0 _ v rfl (by omega) p (by rw[Rq];simp[val]) (λk _=>by simp[dH,List.getElem?_replicate];split<;>rfl)) (ρ.rf U);intro out N E5 c O P;refine bS P ?_;have io:aF N w .i64 (.sl d 0 (a.length+b.length+1) (a.length+b.length+1)) out:=c.co.oJ c.len;have R:=c3.ext c.ext;refine ε<|σ U<|ξ U (c.c2.ld U _)<|σ U<|ξ U (c.c3.ld U _)<|HS U U<|γ U<|ji (EM rfl rfl rfl rfl rfl rfl)<|ψ U U<|uI l (by have:=c.len;omega) io <| λm S h6 y r z k6=>aH U U ((R.ext r).2) (pE (iz rfl z.one)) <| λA T b7=>δ ?_;have W:Ext h n A y:=((e.trans c.ext).trans r).ab b7 (by omega);refine Γ ⟨_,jE rfl (bc T rfl),?_⟩;exact F m S (cG out) A y W ((z.up r.1).ab b7 (Or.inr (by rw[k6.1];show d.num≠t.num;omega))) (pB c.sm) (by rw[nU,O])
def RV(g:Cd C){va:V}{a:List Nat}{d:Nat}(i:a.length<1000)(j:Sm 10000 a)(k:d<10000)(c:aF h n .i64 va a)
 (l:∀v' l' h' n',Ext h n h' n'->aF h' n' .i64 v' l'->dC 10000 l'->val 10000 l'=val 10000 a*d->Q v' h' n'):ν C (.f 351 [] []) [va,iN d] h n Q:=by
 refine ν.go g.f351 U ?_;refine ε<|γ U<|δ ?_;refine ε<|γ U<|ji (yD rfl c.cells c.one)<|γ U<|eg U <| λh1 n1 t m e=>ji U<|ψ U U<|ago g (b:=[d]) i (by simp) j (Sm.cons k Sm.nil) ((c.at_ e).up e.1) (κ.whole (len:=1) (by omega) m rfl) <| λu o l2 h2 p q r r2 s=>sI U U<|γ U<|δ ?_;refine Γ ⟨_,rfl,l o l2 h2 p (e.trans q) r r2 (by rw[s];simp[val])⟩
end
section
variable {C:Nat->Option aI}{h:Hf}{n:K}{Q:V->Hf->K->Prop}
def EO{B k:Nat}{l:List Nat}(hl:Nz l)(hB:1<B)(h:val B l<B ^ k):l.length<=k:=by
 by_cases c:l=[]
 ·simp[c]
 ·have h1:=EF (B:=B) hl (by omega) c;have h2:l.length - 1<k:=(Nat.pow_lt_pow_iff_right hB).1 (by omega);omega
def RW{a b:Nat}:(fk a b<=0)↔a<=b:=by
 unfold fk;split
 ·simp;omega
 ·split
  ·simp;omega
  ·simp;omega
def RX{a b:Nat}:(fk a b<0)↔a<b:=by
 unfold fk;split
 ·simp;omega
 ·split
  ·simp;omega
  ·simp;omega
def Jx{b l:List Nat}{d:Nat}(hb:Sm 10000 b)(hl:Nz l)(c:d<10000)(hv:val 10000 l=val 10000 b*d):l.length<=b.length+1:=by refine EO (B:=10000) hl (by omega) ?_;have h1:=nT hb;have h2:val 10000 b*d<=val 10000 b*10000:=pa _ (by omega);have e:val 10000 b*10000<10000 ^ b.length*10000:=Nat.mul_lt_mul_of_pos_right h1 (by omega);rw[hv,fy];omega
section
variable {h0:Hf}{n0:K}{va vb vr vq:V}{b r:List Nat}{i8:Int}
def agp(k:Cd C)(E:b.length<500)(F:r.length<600)(hb:dC 10000 b)(w:dC 10000 r)(ib:aF h0 n0 .i64 vb b)(ir:aF h0 n0 .i64 vr r){Q1:Ex->Env->Hf->K->Prop}
 (d:∀low h n E',low<=9999->low*val 10000 b<=val 10000 r->val 10000 r<(low+1)*val 10000 b->Ext h0 n0 h n->ρ [(k0,va),(k1,vb),(k6,vq),(k7,vr),(k8,.i .i64 i8),(k9,iN low)] E'->Q1 .normal E' h n):
 ∀(m low high:Nat) (h:Hf) (n:K),high - low<=m->low<=high->high<=9999->low*val 10000 b<=val 10000 r->val 10000 r<(high+1)*val 10000 b->Ext h0 n0 h n->WC C PT [(k0,va),(k1,vb),(k6,vq),(k7,vr),(k8,.i .i64 i8),(k9,iN low),(qg,iN high)] h n (blk 2 Q1):=by
 intro m
 induction m with
 | zero=>
  intro low high h n hm h1 h2 x y he;have:low=high:=by omega
  subst this;refine ax ?_;refine θ<|ε<|γ U<|γ U<|ay U U<|δ ?_;exact ae U (by simp)<|aJ (d low h n _ h2 x y he (ρ.rf U))
 | succ m ih=>
  intro low high h n hm g1 q s t he;refine ax ?_;refine θ<|ε<|γ U<|γ U<|ay U U<|δ ?_;refine cm U (λc=>?_) (λc=>?_)
  case refine_2=>
   simp only[cg]at c;have:low=high:=by omega
   subst this;exact aJ (d low h n _ q s t he (ρ.rf U))
  simp only[aW]at c;refine Ω ?_;refine aj<|ε<|γ U<|γ U<|gT U U (show(low:Int)+(high:Int)=((low+high:Nat):Int) from rfl) ⟨by omega,by omega⟩<|gT U U (show((low+high:Nat):Int)+1=((low+high+1:Nat):Int) from rfl) ⟨by omega,by omega⟩<|A4 (b:=2) U U (by omega) ⟨by omega,by omega⟩<|γ U<|δ ?_;obtain⟨mid,z⟩:∃mid,mid=(low+high+1) / 2:=⟨_,rfl⟩;rw[←z];have G:low<mid:=by omega
  have A:mid<=high:=by omega
  have H:=nT hb.1;have B:=(ib.at_ he).up he.1;have key:∀{Q:V->Hf->K->Prop},(∀v' l' h' n',Ext h n h' n'->aF h' n' .i64 v' l'->dC 10000 l'->val 10000 l'=val 10000 b*mid->Q v' h' n')->ν C (.f 351 [] []) [vb,iN mid] h n Q:=λd=>RV k (by omega) hb.1 (by omega) B d;refine ε<|γ U<|γ U<|ψ U U<|key <| λv1 l1 h1 n1 l o g p=>ji (yD rfl o.cells o.one)<|ψ U U<|uI k (by have:=Jx hb.1 g.2 (by omega) p;omega) o <| λI J h2 u j D k2=>sI U U<|γ U<|ψ U U<|RT k (by have:=Jx hb.1 g.2 (by omega) p;rw[Rs g.2];omega) (by omega) (pB g.1) w (D.up j.1) ((ir.at_ (he.trans (l.trans j))).up (he.trans (l.trans j)).1)<|mS U U<|δ ?_;rw[nU,p];have v:=he.trans (l.trans j);have L:val 10000 b*mid=mid*val 10000 b:=cT _ _;refine cm U (λc=>?_) (λc=>?_)
  ·simp only[aW]at c;refine aA<|γ U<|γ U<|δ ?_;exact χ (ih mid high h2 u (by omega) A q (by have:=RW.1 c;omega) t v) (ρ.rf U)
  ·simp only[cg]at c;have M:¬ val 10000 b*mid<=val 10000 r:=λe=>c (RW.2 e);refine aA<|γ U<|jR U U (show(mid:Int) - 1=((mid - 1:Nat):Int) by omega) ⟨by omega,by omega⟩<|γ U<|δ ?_;refine χ (ih low (mid - 1) h2 u (by omega) (by omega) (by omega) s ?_ v) (ρ.rf U);rw[show mid - 1+1=mid by omega];omega
end
section
variable {h0:Hf}{n0:K}{va vb:V}{a b:List Nat}{bq:K}
def ags(o:Cd C)(eJ:a.length<500)(eH:b.length<500)(S:Sm 10000 a)(hb:dC 10000 b)(eb:b≠[])(ia:aF h0 n0 .i64 va a)(ib:aF h0 n0 .i64 vb b)(hq:n0.num<=bq.num){Q1:Ex->Env->Hf->K->Prop}
 (hQ:∀q r vr h n E',q.length=a.length->Cl h n bq (nC .i64 q) 3->(vr=.ns\/bq.num<vr.blk.num)->aF h n .i64 vr r->dC 10000 r->val 10000 r=val 10000 a % val 10000 b->Ext h0 n0 h n->ρ [(k6,.sl bq 0 a.length a.length),(k7,vr)] E'->Q1 .normal E' h n):
 ∀(m:Nat) (q r:List Nat) (vr:V) (h:Hf) (n:K),m<=a.length->q.length=a.length->Cl h n bq (nC .i64 q) 3->aF h n .i64 vr r->(vr=.ns\/bq.num<vr.blk.num)->dC 10000 r->val 10000 r=val 10000 (a.drop m) % val 10000 b->Ext h0 n0 h n->WC C PS [(k0,va),(k1,vb),(k6,.sl bq 0 a.length a.length),(k7,vr),(k8,.i .i64 ((m:Int) - 1))] h n (blk 0 Q1):=by
 have F:0<val 10000 b:=tV λe=>eb ((val_zero (B:=10000) hb.2 (by omega)).1 e);intro m
 induction m with
 | zero=>
  intro q r vr h n hm w p ir T x hv he;refine ax ?_;refine θ<|ε<|γ U<|dj U U<|δ ?_;exact ae U (by simp<;>omega)<|aJ (hQ q r vr h n _ w p T ir x hv he (ρ.rf U))
 | succ m ih=>
  intro q r vr h n hm w p ir T x hv he;have s:m<a.length:=by omega
  have em:((m+1:Nat):Int) - 1=(m:Nat):=by omega
  rw[em];have W:=ia.at_ he;have ga:=W.get s 1;have gD:r.length<=b.length:=nV x.2 hb.1 (by omega) (by have:=j4 (val 10000 (a.drop (m+1))) F;omega);refine ax ?_;refine θ<|ε<|γ U<|dj U U<|δ ?_;refine ah U (by simp<;>omega)<|Ω ?_;have arq:r.length<=b.length:=gD;refine θ<|aj<|ε<|γ U<|γ U<|aB U U W s<|ξ U ga<|eg U <| λh1 n1 cA a1 G=>γ U<|Pn U (κ.whole (len:=1) (by omega) a1 rfl) U ((ir.ext G)) (by omega) (by omega) (by omega) <| λv2 h2 n2 H X dS k2=>ji (yD rfl (κ.cells H) (κ.one H))<|ψ U U<|uI o (l:=a[m]::r) (by simp;omega) (show κ h2 n2 1 v2 (a[m]::r).length _ by simpa[nC,nF]using H) <| λng t u y I i3 k3=>sI U U<|γ U<|δ ?_;have Y:Sm 10000 (a[m]::r):=Sm.cons (S.get s) x.1;have v:=pB Y;have z:Ext h0 n0 u y:=he.trans ((G.trans X).trans I);have Z:val 10000 (cG (a[m]::r))=a[m]+10000*val 10000 r:=by rw[nU];rfl
  have hRl:(cG (a[m]::r)).length<=b.length+1:=by refine EO (B:=10000) v.2 (by omega) ?_;have h1:=nT Y;rw[nU];refine ep h1 (vK (by omega) (by simp;omega))
  have fU:val 10000 (cG (a[m]::r))<10000*val 10000 b:=by have h1:=j4 (val 10000 (a.drop (m+1))) F;have h2:a[m]<10000:=S.get s;have u:10000*(val 10000 r+1)<=10000*val 10000 b:=pa _ (by omega);rw[Z];omega
  have RY:val 10000 (cG (a[m]::r)) % val 10000 b=val 10000 (a.drop m) % val 10000 b:=by rw[Z,hv,Je,←wE a s]
  generalize hR:cG (a[m]::r)=R at*;have wM:t=.ns\/bq.num<t.blk.num:=by right;rw[k3.1];have:=p.1;rcases k2 with k | k<;>rw[k]<;>omega
  have sO:=p.ext ((G.trans X).trans I);have oL:=ib.at_ z;have J:=i3.up I.1;refine ε<|γ U<|γ U<|δ ?_;refine θ<|ε<|γ U<|γ U<|ψ U U<|RT o (by omega) (by omega) v hb J (oL.up z.1)<|ay U U<|δ ?_;have bs:∀high:Nat,high<=9999->val 10000 R<(high+1)*val 10000 b->WC C (.block 2 PT) [(k0,va),(k1,vb),(k6,.sl bq 0 a.length a.length),(k7,t),(k8,iN m),(k9,.i .i64 ((0:Nat):Int)),(qg,iN high)] u y (sq C aca (blk 1 (sq C PU (sq C (.loop Ba) (blk 0 Q1))))):=by
   intro high hh hh2;refine aj<|agp o eH (by omega) hb v (oL.up z.1) J ?_ high 0 high u y (by omega) (by omega) hh (by omega) hh2 (Ext.refl u y);intro low h4 A E4 l1 l2 l3 L s4;refine bS s4 ?_;have M:=sO.ext L;have iq:=M.oJ w;have hmq:m<q.length:=by omega
   have dP:=p.1;refine ε<|γ U<|γ U<|γ U<|aB U U iq hmq<|aH U U M.2 (uy hmq _ (by simp[V.off])) <| λD a5 b5=>δ ?_;have N:Cl D A bq (nC .i64 (q.set m low)) 3:=⟨M.1,a5⟩;have iR5:aF D A .i64 t R:=(J.ext L).ab b5 (wM.imp id λh=>Nat.ne_of_gt h);have E:Ext h0 n0 D A:=(z.trans L).ab b5 hq;have qS:=(ib.at_ E).up E.1;have next:∀r' j c f,Cl c f bq (nC .i64 (q.set m low)) 3->aF c f .i64 j r'->(j=.ns\/bq.num<j.blk.num)->dC 10000 r'->val 10000 r'=val 10000 (a.drop m) % val 10000 b->Ext h0 n0 c f->WC C PU [(k0,va),(k1,vb),(k6,.sl bq 0 a.length a.length),(k7,j),(k8,iN m)] c f (sq C (.loop Ba) (blk 0 Q1)):=by intro r' j c f g1 g2 g3 g4 g5 g6;refine aA<|γ U<|gG U U ⟨by omega,by omega⟩<|γ U<|δ ?_;exact χ (ih (q.set m low) r' j c f (by omega) (by rw[gZ];exact w) g1 g2 g3 g4 g5 g6) (ρ.rf U)
   refine ε<|γ U<|bC U U<|δ ?_;refine cm U (λg=>?_) (λg=>Ω ?_)
   ·simp only[aW]at g;refine aA<|γ U<|γ U<|γ U<|ψ U U<|RV o (d:=low) (by omega) hb.1 (by omega) qS <| λv6 l6 c f O i6 q6 P=>ψ U U<|agi o (by omega) (by have:=Jx hb.1 q6.2 (by omega) P;omega) v.1 q6 (iR5.ext O) i6 (by rw[P,cT];exact l2) <| λv7 l7 h7 n7 e7 i7 q7 y7 k7=>γ U<|δ ?_;have e67:=O.trans e7;refine χ (next l7 v7 h7 n7 (N.ext e67) i7 (k7.imp id λh=>?_) q7 ?_ (E.trans e67)) (ρ.rf U)
    ·have:=O.1;have:=N.1;omega
    ·rw[y7,P,cT,←RY];refine Rx F l2 ?_;rw[fM,Nat.one_mul]at l3;exact l3
   ·simp only[cg]at g;have h0':low=0:=by omega
    refine χ (next R t D A N iR5 wM v ?_ E) (ρ.rf U);rw[←RY,tZ];rw[h0']at l3;omega
  refine cm U (λg=>?_) (λg=>Ω ?_)
  ·simp only[aW]at g;refine aA<|γ U<|δ ?_;exact θ<|χ (bs 0 (by omega) (by have:=RX.1 g;omega)) (ρ.rf U)
  ·exact θ<|χ (bs 9999 (by omega) fU) (ρ.rf U)
end
def wN:∀l:List Nat,(cG l).length<=l.length:=by
 intro l
 induction l with
 | nil=>simp[cG]
 | cons a l ih=>
  simp only[cG];split
  ·split<;>simp
  ·rename_i b m h;rw[h]at ih;simp at ih ⊢;omega
def agy(c:Cd C){va vb:V}{a b:List Nat}(k:a.length<500)(l:b.length<500)(m:Sm 10000 a)(hb:dC 10000 b)(o:b≠[])(d:aF h n .i64 va a)(ib:aF h n .i64 vb b)
 (p:∀vq q vr r h' n',Ext h n h' n'->aF h' n' .i64 vq q->q.length<=a.length->aF h' n' .i64 vr r->dC 10000 r->val 10000 r=val 10000 a % val 10000 b->(vr=.ns\/n.num<=vr.blk.num)->Q (.u [vq,vr]) h' n'):ν C (.f 332 [] []) [va,vb] h n Q:=by
 refine ν.go c.f332 U ?_;refine ε<|γ U<|γ U<|δ ?_;refine ε<|γ U<|al U d<|pA U U (by omega) (by omega) <| λh1 n1 I g i=>γ U<|δ ?_;rw[wA]at g;refine ε<|γ U<|δ ?_;have s:=d.at_ i;refine θ<|ε<|γ U<|al U s<|gG U U ⟨by omega,by omega⟩<|γ U<|δ ?_;refine aj<|χ (ags (h0:=h) (n0:=n) (bq:=n) c k l m hb o d ib (φ _) ?_ a.length (List.replicate a.length 0) [] .ns h1 n1 (φ _) (by simp) ⟨by omega,g⟩ aF.nil (Or.inl U) dC.nil (by rw[jw];simp[val]) i) (ρ.rf U);intro q r vr h2 t E2 j v w x y z A B;refine bS B ?_;have D:aF h2 t .i64 (.sl n 0 a.length a.length) q:=v.oJ j;refine ε<|γ U<|ji (yD rfl rfl rfl)<|ψ U U<|uI c (by omega) D <| λJ E F G e H k3=>sI U U<|γ U<|γ U<|γ U<|δ ?_;refine Γ ⟨_,rfl,?_⟩;exact p E (cG q) vr r F G (A.trans e) (H.up e.1) (by rw[←j];exact wN q) (x.ext e) y z (w.imp id eu)
def EP{v:V}{x:Bool}(h:bk n v=true):bk n (.a [.b x,v])=true:=by simp[bk,fC,h]
def ER{v:V}{x:Bool}(h:cI v v=true):cI (.a [.b x,v]) (.a [.b x,v])=true:=by simp[cI,jA,h]
def agz(o:Cd C){va vb:V}{nb:Bool}{a b:List Nat}(eJ:a.length<500)(eH:b.length<500)(ha:Sm 10000 a)(hb:dC 10000 b)(P:b≠[])(R:aF h n .i64 va a)(ib:aF h n .i64 vb b)
 (hQ:∀vq vr r d s h' n',Ext h n h' n'->vq.one=true->s=false->aF h' n' .i64 vr r->dC 10000 r->val 10000 r=val 10000 a % val 10000 b->(vr=.ns\/n.num<=vr.blk.num)->Q (.u [.a [.b d,vq],.a [.b s,vr]]) h' n'):ν C (.f 303 [] []) [.a [.b false,va],.a [.b nb,vb]] h n Q:=by
 refine ν.go o.f303 U ?_;have h1:=R.one;have lB:=ib.one;refine ε<|cR U U (iz rfl h1) <| λh1 n1 cA a1 e1=>cR U U (iz rfl lB) <| λh2 S dS a2 T=>bA <| λh3 n3 gJ a3 A=>bA <| λt i jZ a4 v=>δ ?_;have W:=e1.trans T;have e:=(W.trans A).trans v;have c2:Cl t i n [.b false,va] 310:=((Cl.ext ⟨by omega,a1⟩ T).ext A).ext v;have c3:Cl t i n1 [.b nb,vb] 310:=(Cl.ext ⟨by omega,a2⟩ A).ext v;have c4:Cl t i S [.b false,.ns] 310:=Cl.ext ⟨by omega,a3⟩ v;have c5:Cl t i n3 [.b false,.ns] 310:=⟨by omega,a4⟩;refine ε<|σ U<|ξ U (c2.ld U _)<|σ U<|ξ U (c3.ld U _)<|ψ U U<|agy o eJ eH ha hb P ((R.at_ e).up e.1) ((ib.at_ e).up e.1) <| λvq q vr r h5 n5 j D l5 E X Y u5=>γ U<|bF U U<|bF U U<|γ U<|γ U<|δ ?_;have Z:=c2.ext j;have d3:=c3.ext j;have d4:=c4.ext j;have d5:=c5.ext j;have ho:=aF.one E;refine ε<|σ U<|ξ U (Z.ld U _)<|σ U<|ξ U (d3.ld U _)<|HS U U<|γ U<|ji (EM rfl rfl rfl rfl D.cells D.one)<|ψ U U<|uI o (by omega) D <| λd k h6 w x i6 k6=>γ U<|ji (yD rfl E.cells ho)<|bA <| λh7 F oW a7 e7=>bA <| λh8 y sY a8 G=>aH U U ((Cl.ext (n:=F) ⟨by omega,a7⟩ G).2) (pE (iz rfl i6.one)) <| λh9 a9 H=>aH U U ((Cl.ab (n:=y) ⟨by omega,a8⟩ H (by omega)).2) (pE (iz rfl ho)) <| λg oE I=>δ ?_;have l:Ext h5 n5 g y:=(((x.trans e7).trans G).ab H (by have:=x.1;omega)).ab I (by have:=x.1;omega);have c8:Cl g y w [.b d,k] 310:=Cl.ab ⟨by omega,a9⟩ I (by omega);have c9:Cl g y F [.b false,vr] 310:=⟨by omega,oE⟩;have f2:=Z.ext l;have f4:=d4.ext l;have f5:=d5.ext l;have J:=(E.ext l);have z:aF g w .i64 k _:=(i6.up x.1).at_ (((((Ext.refl h6 w).trans e7).trans G).ab H (φ _)).ab I (by omega));have lr:r.length<500:=by
  by_cases hc:val 10000 b=0
  ·exact absurd ((val_zero hb.2 (by omega)).1 hc) P
  ·have:=nV (B:=10000) X.2 hb.1 (by omega) (by rw[Y];exact eu (j4 _ (by omega)));omega
 refine θ<|ε<|σ U<|ξ U (f2.ld U _)<|γ U<|μ U (rfl)<|μ U (rfl)<|μ U (rfl)<|aL U (rfl) U<|δ ?_;refine ae U U<|Ω ?_;have l8:bj g true 2 (.p w 0)=some (.a [.b d,k]):=bc c8.2 rfl;have l9:bj g true 2 (.p F 0)=some (.a [.b false,vr]):=bc c9.2 rfl;refine cX<|aC U l8 (EP (κ.below z (by omega))) (ER (κ.cH z))<|aC U l9 (EP (κ.below J (φ _))) (ER (κ.cH J))<|aY U U<|uI o (by omega) J <| λs L fX M m i11 qh=>eT U U ((f4.ext m).2) (pE (iz rfl z.one)) <| λgk xB b12=>eT U U ((Cl.ab (n:=M) (f5.ext m) b12 (by omega)).2) (pE (iz rfl i11.one)) <| λN Jy cN=>bU (⟨⟨ω (by simp[Nat.testBit]),ω (by simp[Nat.testBit]),ω (by simp[Nat.testBit]),trivial⟩,⟨ω (by simp[Nat.testBit]),ω (by simp[Nat.testBit]),bH l8 (bc (c8.ext m).2 rfl),trivial⟩,trivial⟩) ?_;have Jz:N S=some (.c [.b d,k] 310 0):=(cN _ (by omega)).trans xB;refine Γ ⟨_,A2 rfl (bc Jz rfl) U (bc Jy rfl),?_⟩;have g12:=W.1;have O:L=.ns\/i.num<=L.blk.num:=u5.imp qh.2.1 λh=>by rw[qh.1];exact h
 have x13:Ext h n N M:=((((e.trans j).trans l).trans m).ab b12 (by omega)).ab cN (by omega);refine hQ k L (cG r) d s N M x13 z.one (qh.2.2 rfl) ?_ (pB X.1) (by rw[nU];exact Y) (O.imp id λh=>by have:=e.1;omega);have agB:=i11.up m.1;exact(agB.ab b12 (O.imp id λh=>by omega)).ab cN (O.imp id λh=>by omega)
def agC(R:Cd C){h0:Hf}{n0 b2 b3 b4:K}(S:n0.num<=b2.num)(T:n0.num<=b3.num)(Mg:n0.num<=b4.num)(h23:b2.num≠b3.num)(h24:b2.num≠b4.num)(h34:b3.num≠b4.num){G:Nat}
 {Q1:Ex->Env->Hf->K->Prop}(E:∀va g h n E',Ext h0 n0 h n->Cl h n b2 [.b false,va] 310->Cl h n b4 [.b false,.ns] 310->aF h n .i64 va g->dC 10000 g->val 10000 g=G->(va=.ns\/va.blk.num≠b4.num)->ρ [(k2,.p b2 0),(k4,.p b4 0)] E'->Q1 .normal E' h n):
 ∀(m:Nat) (va vb:V) (a b:List Nat) (h:Hf) (n:K),val 10000 b<=m->a.length<500->b.length<500->dC 10000 a->dC 10000 b->Nat.gcd (val 10000 a) (val 10000 b)=G->aF h n .i64 va a->aF h n .i64 vb b->(va=.ns\/va.blk.num≠b2.num/\va.blk.num≠b3.num/\va.blk.num≠b4.num)->(vb=.ns\/vb.blk.num≠b2.num/\vb.blk.num≠b3.num/\vb.blk.num≠b4.num)->Ext h0 n0 h n->Cl h n b2 [.b false,va] 310->Cl h n b3 [.b false,vb] 310->Cl h n b4 [.b false,.ns] 310->WC C ab9 [(k2,.p b2 0),(k3,.p b3 0),(k4,.p b4 0)] h n (blk 0 Q1):=by
 intro m
 induction m with
 | zero=>
  intro va vb a b h n hm F v j hb k l ib w o he c2 c3 c4;have d:b=[]:=(val_zero (B:=10000) hb.2 (by omega)).1 (by omega);subst d;refine ax ?_;refine θ<|ε<|σ U<|ξ U (c3.ld U _)<|al U ib<|bC U U<|δ ?_;exact ae U U<|aJ (E va a h n _ he c2 c4 l j (by simpa[val]using k) (w.imp id λh=>h.2.2) (ρ.rf U))
 | succ m ih=>
  intro va vb a b h n hm F v j hb k l ib w o he c2 c3 c4;refine ax ?_;by_cases d:b=[]
  ·subst d;refine θ<|ε<|σ U<|ξ U (c3.ld U _)<|al U ib<|bC U U<|δ ?_;exact ae U U<|aJ (E va a h n _ he c2 c4 l j (by simpa[val]using k) (w.imp id λh=>h.2.2) (ρ.rf U))
  ·refine θ<|ε<|σ U<|ξ U (c3.ld U _)<|al U ib<|bC U U<|δ ?_;have eS:0<b.length:=by cases b with | nil=>exact absurd rfl d | cons=>simp
   refine ah U (by simp<;>omega)<|Ω ?_;have W:0<val 10000 b:=tV λe=>d ((val_zero (B:=10000) hb.2 (by omega)).1 e);refine aj<|ε<|ξ U (bc c2.2 rfl)<|ξ U (bc c3.2 rfl)<|ψ U U<|agz R F v j.1 hb d l ib <| λvq vr r ng nr h1 n1 f X Y ir H I Z=>γ U<|bF U U<|bF U U<|bA <| λh2 J dS a2 e2=>bA <| λh3 x gJ a3 L=>aH U U ((Cl.ext (n:=J) ⟨by omega,a2⟩ L).2) (pE (iz rfl X)) <| λh4 a4 M=>aH U U ((Cl.ab (n:=x) ⟨by omega,a3⟩ M (by omega)).2) (pE (iz rfl ir.one)) <| λq N t5=>δ ?_;subst Y;have g2:=c2.1;have g3:=c3.1;have g4:=c4.1;have i:Ext h1 n1 q x:=((e2.trans L).ab M (φ _)).ab t5 (by omega);have O:=(c2.ext f).ext i;have y:=(c3.ext f).ext i;have d4:=(c4.ext f).ext i;have l3:bj q true 2 (.p b3 0)=some (.a [.b false,vb]):=bc y.2 rfl;have l6:bj q true 2 (.p J 0)=some (.a [.b false,vr]):=bc N rfl;have z:=(ib.ext f).ext i;have A:=ir.ext i;have g1:=f.1;refine nO<|aC U l3 (EP (κ.below z (φ _))) (ER (κ.cH z))<|aC U l6 (EP (κ.below A (φ _))) (ER (κ.cH A))<|eT U U O.2 (pE (iz rfl ib.one)) <| λP a6 b6=>eT U U ((y.ab b6 (by omega)).2) (pE (iz rfl ir.one)) <| λs a7 b7=>bU (⟨⟨ω (by simp[Nat.testBit]),bH l6 (bc ((b6 _ (by omega)).trans N) U),trivial⟩,⟨ω (by simp[Nat.testBit]),ω (by simp[Nat.testBit]),trivial⟩,trivial⟩) ?_;have CO:s b2=some (.c [.b false,vb] 310 0):=(b7 _ (by omega)).trans a6;have t:bm b2 q P:=b6;have u:bm b3 P s:=b7;have CP:s b3=some (.c [.b false,vr] 310 0):=a7;have yd:=j4 (val 10000 a) W;have gD:r.length<500:=by have:=nV (B:=10000) H.2 hb.1 (by omega) (by rw[I];exact eu yd);omega
   have D:vr=.ns\/vr.blk.num≠b2.num/\vr.blk.num≠b3.num/\vr.blk.num≠b4.num:=Z.imp id λh=>⟨by omega,by omega,by omega⟩;refine χ (ih vb vr b r s x (by omega) v gD hb H ?_ ((z.ab t (o.imp id λh=>h.1)).ab u (o.imp id λh=>h.2.1)) ((A.ab t (D.imp id λh=>h.1)).ab u (D.imp id λh=>h.2.1)) o D (((he.trans (f.trans i)).ab t S).ab u T) ⟨O.1,CO⟩ ⟨y.1,CP⟩ ((d4.ab t (by omega)).ab u (by omega))) (ρ.rf U);rw[I,←k,Nat.gcd_comm (val 10000 a),Nat.gcd_rec (val 10000 b) (val 10000 a),Nat.gcd_comm]
def agD(m:Cd C){va vb:V}{na nb:Bool}{a b:List Nat}(s:a.length<500)(t:b.length<500)(u:dC 10000 a)(hb:dC 10000 b)(j:aF h n .i64 va a)(ib:aF h n .i64 vb b)
 (v:∀e g h' n',Ext h n h' n'->aF h' n' .i64 e g->dC 10000 g->val 10000 g=Nat.gcd (val 10000 a) (val 10000 b)->Q (.a [.b false,e]) h' n'):ν C (.f 259 [] []) [.a [.b na,va],.a [.b nb,vb]] h n Q:=by
 refine ν.go m.f259 U ?_;have h1:=j.one;have w:=ib.one;refine ε<|cR U U (iz rfl h1) <| λh1 n1 R x y=>cR U U (iz rfl w) <| λh2 o S z p=>bA <| λk c T A l=>δ ?_;have B:=(y.trans p).trans l;have c2:Cl k c n [.b na,va] 310:=(Cl.ext ⟨by omega,x⟩ p).ext l;have c3:Cl k c n1 [.b nb,vb] 310:=Cl.ext ⟨by omega,z⟩ l;have c4:Cl k c o [.b false,.ns] 310:=⟨by omega,A⟩;refine ε<|σ U<|aH U U c2.2 (EN rfl rfl) <| λW D b4=>σ U<|aH U U ((c3.ab b4 (by omega)).2) (EN rfl rfl) <| λi E b5=>δ ?_;have d:Ext h n i c:=(B.ab b4 (φ _)).ab b5 (by omega);have k2:Cl i c n [.b false,va] 310:=Cl.ab ⟨c2.1,D⟩ b5 (by omega);have k3:Cl i c n1 [.b false,vb] 310:=⟨c3.1,E⟩;have k4:=(c4.ab b4 (by omega)).ab b5 (by omega);refine θ<|aj<|χ (agC m (h0:=h) (n0:=n) (b2:=n) (b3:=n1) (b4:=o) (φ _) (by omega) (by omega) (by omega) (by omega) (by omega) ?_ _ va vb a b i c (φ _) s t u hb rfl ((j.at_ d).up d.1) ((ib.at_ d).up d.1) ((j.pk).imp id λh=>⟨by omega,by omega,by omega⟩) ((ib.pk).imp id λh=>⟨by omega,by omega,by omega⟩) d k2 k3 k4) (ρ.rf U);intro e g X F E6 G H I q J L M N;refine bS N ?_;refine ε<|ξ U (bc H.2 rfl)<|aH U U I.2 (pE (iz rfl q.one)) <| λO P b7=>δ ?_;refine Γ ⟨_,jE rfl (bc P rfl),?_⟩;exact v e g O F (G.ab b7 (by omega)) (q.ab b7 M) J L
end
section
variable {C:Nat->Option aI}{h:Hf}{n:K}{Q:V->Hf->K->Prop}
def wO{c:UInt8}(h:fP c=true):48<=c.toNat/\c.toNat<=57:=by simpa only[fP,aK,aW]using h
def agE{b:S}{lo e:Nat}(h1:lo<=e)(h2:e<=b.length):dec (b.take e)=dec (b.take lo)*10 ^ (e - lo)+dec ((b.drop lo).take (e - lo)):=by
 have:b.take e=b.take lo++(b.drop lo).take (e - lo):=by rw[←xI lo (b.take e),List.take_take,rW h1,List.drop_take]
 rw[this,EG];congr 3;simp;omega
def agF{b:S}{lo i:Nat}(h1:lo<=i)(h2:i<b.length):(b.drop lo).take (i+1 - lo)=(b.drop lo).take (i - lo)++[b[i]]:=by
 have e:i+1 - lo=(i - lo)+1:=by omega
 rw[e,fL (by simp;omega)];congr 2;rw[List.getElem_drop];congr 1;omega
def JD{k:Nat}(h:k<=4):10 ^ k<=10000:=by have:10 ^ k<=10 ^ 4:=vK (by omega) h;simpa using this
def ea.one{h:Hf}{e z len:Nat}{v:V}{cs:List V}(a:ea h e z v len cs):v.one=true:=by
 rcases a.2 with h | ⟨_,b,h,_⟩
 ·rw[h.1];rfl
 ·rw[h];rfl
def ea.cells{h:Hf}{e z len:Nat}{v:V}{cs:List V}(a:ea h e z v len cs):v.cells=[v]:=by
 rcases a.2 with h | ⟨_,b,h,_⟩
 ·rw[h.1];rfl
 ·rw[h];rfl
section
variable {b:S}{x2 x3:V}
def agG{lo e:Nat}(hb:b.length<1000)(a:∀c∈b,fP c=true)(h1:lo<=e)(h2:e<=b.length)(l:e - lo<=4){Q1:Ex->Env->Hf->K->Prop}
 (f:∀E',ρ [(k0,st b),(k2,x2),(k3,x3),(k4,iN e),(k5,.i .i64 (dec ((b.drop lo).take (e - lo)):Nat))] E'->Q1 .normal E' h n):
 ∀(m i:Nat),e - i=m->lo<=i->i<=e->WC C ab6 [(k0,st b),(k2,x2),(k3,x3),(k4,iN e),(k5,.i .i64 (dec ((b.drop lo).take (i - lo)):Nat)),(k6,iN i)] h n (blk 2 Q1):=by
 intro m
 induction m with
 | zero=>
  intro i hm hl hi;have:i=e:=by omega
  subst this;refine ax ?_;refine θ<|ε<|γ U<|γ U<|ay U U<|δ ?_;exact ae U (by simp)<|aJ (f _ (ρ.rf U))
 | succ m ih=>
  intro i hm hl hi;have d:i<b.length:=by omega
  have o:=wO (a b[i] (bK _));have hs:=agF hl d;have g:dec ((b.drop lo).take (i+1 - lo))=10*dec ((b.drop lo).take (i - lo))+(b[i].toNat - 48):=by rw[hs];exact Ry 0 _ _
  have p:dec ((b.drop lo).take (i - lo))<10 ^ (i - lo):=by
   have:=dec_lt (s:=(b.drop lo).take (i - lo)) (λc j=>a c (xK (qX j)));have kA:((b.drop lo).take (i - lo)).length=i - lo:=by simp;omega
   rw[kA]at this;exact this
  have hp:=JD (k:=i - lo) (by omega);refine ax ?_;refine θ<|ε<|γ U<|γ U<|ay U U<|δ ?_;refine ah U (by simp<;>omega)<|Ω ?_;generalize q:dec ((b.drop lo).take (i - lo))=D at*;refine θ<|aj<|aA<|γ U<|uz U U (show(10:Int)*(D:Nat)=((10*D:Nat):Int) by omega) ⟨by omega,by omega⟩<|γ U<|γ U<|kc U U d<|jR U U (show((b[i].toNat:Nat):Int) - 48=((b[i].toNat - 48:Nat):Int) by omega) ⟨by omega,by omega⟩<|kS U ⟨by omega,by omega⟩<|gT U U (show((10*D:Nat):Int)+((b[i].toNat - 48:Nat):Int)=((10*D+(b[i].toNat - 48):Nat):Int) by omega) ⟨by omega,by omega⟩<|γ U<|δ ?_;rw[←g];refine aA<|γ U<|aX U U ⟨by omega,by omega⟩<|γ U<|δ ?_;exact χ (ih (i+1) (by omega) (by omega) (by omega)) (ρ.rf U)
def agH(Y:Cd C){h0:Hf}{n0 b3:K}{neg:Bool}(Z:n0.num<=b3.num)(hb:b.length<1000)(v:∀c∈b,fP c=true){Q1:Ex->Env->Hf->K->Prop}
 (w:∀l a h n E',l.length<=b.length->Sm 10000 l->val 10000 l=dec b->Cl h n b3 [.b neg,a] 310->Ext h0 n0 h n->aF h n .i64 a l->(a=.ns\/b3.num<a.blk.num)->ρ [(k2,x2),(k3,.p b3 0)] E'->Q1 .normal E' h n):
 ∀(m:Nat) (x:Int) (l:List Nat) (a:V) (h:Hf) (n:K),x.toNat<=m->x<=b.length->l.length+x.toNat<=b.length->Sm 10000 l->dec b=dec (b.take x.toNat)*10000 ^ l.length+val 10000 l->Cl h n b3 [.b neg,a] 310->Ext h0 n0 h n->ea h 3 1 a l.length (nC .i64 l)->(a=.ns\/b3.num<a.blk.num/\a.blk.num<n.num) -> -4<=x->WC C PQ [(k0,st b),(k2,x2),(k3,.p b3 0),(k4,.i .i64 x)] h n (blk 0 Q1):=by
 intro m
 induction m with
 | zero=>
  intro x l a h n hm F hl hs hv f he q d G;have z:x.toNat=0:=by omega
  refine ax ?_;refine θ<|ε<|γ U<|bC U U<|δ ?_;refine ae U (by simp<;>omega)<|aJ (w l a h n _ (by omega) hs ?_ f he (q.sl (d.imp id And.right)) (d.imp id And.left) (ρ.rf U));rw[hv,z];simp[dec,mT]
 | succ m ih=>
  intro x l a h n hm F hl hs hv f he q d G;refine ax ?_;by_cases z:x<=0
  ·refine θ<|ε<|γ U<|bC U U<|δ ?_;refine ae U (by simp<;>omega)<|aJ (w l a h n _ (by omega) hs ?_ f he (q.sl (d.imp id And.right)) (d.imp id And.left) (ρ.rf U));rw[hv,show x.toNat=0 by omega];simp[dec,mT]
  ·obtain⟨e,rfl⟩:∃e:Nat,x=(e:Int):=⟨x.toNat,by omega⟩;simp only[Int.toNat_natCast]at*;refine θ<|ε<|γ U<|bC U U<|δ ?_;refine ah U (by simp<;>omega)<|Ω ?_;refine θ<|aj<|ε<|γ U<|δ ?_;refine θ<|ε<|γ U<|gG U U ⟨by omega,by omega⟩<|HU U U<|γ U<|δ ?_;obtain⟨lo,dO⟩:∃lo:Nat,lo=e - 4:=⟨_,rfl⟩;have j:max (0:Int) ((e:Int) - 4)=(lo:Nat):=by omega
   rw[j];refine aj<|χ (agG (x2:=x2) (x3:=.p b3 0) (lo:=lo) (e:=e) hb v (by omega) (by omega) (by omega) ?_ _ lo rfl (φ _) (by omega)) ⟨rfl,rfl,rfl,rfl,by rw[lL,List.take_zero];rfl,rfl,trivial⟩;intro E1 s1;refine bS s1 ?_;have H:=agE (b:=b) (lo:=lo) (e:=e) (by omega) (by omega);have I:dec ((b.drop lo).take (e - lo))<10000:=by
    have:=dec_lt (s:=(b.drop lo).take (e - lo)) (λc f=>v c (xK (qX f)));have kA:((b.drop lo).take (e - lo)).length=e - lo:=by simp;omega
    rw[kA]at this;have:=JD (k:=e - lo) (by omega);omega
   generalize hD:dec ((b.drop lo).take (e - lo))=D at*;have J:=f.1;refine aA<|σ U<|ξ U (f.ld U _)<|γ U<|eg U <| λh1 n1 cA L j=>jF U (q.ext (d.imp id λh=>j.2 _ h.2)) U (κ.whole (len:=1) (by omega) L rfl) (by omega) (by omega) (by omega) (by omega) U ((d.imp id λh=>by omega)) <| λt h2 A r u dS B=>σ U<|aH U U ((B _ (by omega) (d.imp id λh=>by omega)).trans (j.2 _ J |>.trans f.2)) (RS rfl r.cells r.one) <| λo M N=>δ ?_;have E:bm b3 h2 o:=N;have O:o b3=some (.c [.b neg,t] 310 0):=M;have P:nC .i64 l++[iN D]=nC .i64 (l++[D]):=by rw[HY];rfl
   rw[P]at r;have R:ea o 3 1 t (l++[D]).length (nC .i64 (l++[D])):=by rw[gp];exact r.ext (Or.inr (E _ (by rw[u];omega)))
   have T:Ext h0 n0 o A:=by refine⟨by have:=he.1;omega,λk W=>?_⟩;have:=he.1;rw[E _ (by omega),B k (by omega) (d.imp id λh=>by omega),j.2 _ (by omega),he.2 _ W]
   refine aA<|γ U<|gG U U ⟨by omega,by omega⟩<|γ U<|δ ?_;refine χ (ih ((e:Int) - 4) (l++[D]) t o A (by omega) (by omega) (by simp;omega) ?_ ?_ ⟨by omega,O⟩ T R (Or.inr ⟨by rw[u];omega,by rw[u];omega⟩) (by omega)) (ρ.rf U)
   ·intro y g;rcases gQ.1 g with g | g
    ·exact hs y g
    ·simp at g;rw[g];exact I
   ·have X:((e:Int) - 4).toNat=lo:=by omega
    rw[X,hv,H,uG];simp only[val,jx,hJ,gp,List.length_singleton];rw[fM,fy,cT D];have:dec (b.take lo)*10 ^ (e - lo)*10000 ^ l.length=dec (b.take lo)*(10000 ^ l.length*10000):=by
     by_cases h4:4<=e
     ·rw[show e - lo=4 by omega,gn];congr 1;rw[cT]
     ·rw[show lo=0 by omega];simp[dec,mT]
    omega
end
def RZ(g:Cd C){s:S}(hlen:s.length<1000)(hf:gV s=true)
 (u:∀i v l h' n',Ext h n h' n'->aF h' n' .i64 v l->dC 10000 l->l.length<=s.length->val 10000 l=dec (body s)->Q (.a [.b i,v]) h' n'):ν C (.f 260 [] []) [st s] h n Q:=by
 obtain⟨w,N⟩:=Bm hf;have O:=Bo s;refine ν.go g.f260 U ?_;refine ε<|bA <| λh1 n1 P x y=>δ ?_;refine ε<|bA <| λh2 e R z o=>δ ?_;have c2:Cl h2 e n [.b false,.ns] 310:=Cl.ext ⟨by omega,x⟩ o;have c3:Cl h2 e n1 [.b false,.ns] 310:=⟨by omega,z⟩;have A:=y.trans o;have rest:∀neg d,bm n1 h2 d->Cl d e n1 [.b neg,.ns] 310->WC C PO [(k0,st (body s)),(k2,.p n 0),(k3,.p n1 0)] d e (fq [.cell k2 true 2] Q):=by
  intro neg d b3 c3;have B:Ext h n d e:=A.ab b3 (by omega);have D:=c2.ab b3 (by omega);refine θ<|ε<|γ U<|bN U<|γ U<|δ ?_;refine aj<|χ (agH g (h0:=d) (n0:=n1) (b3:=n1) (neg:=neg) (x2:=.p n 0) (φ _) (by omega) w ?_ _ ((body s).length:Int) [] .ns d e (φ _) (by omega) (by simp) Sm.nil ?_ c3 ⟨by omega,λ_ _=>rfl⟩ (ea.ns d 3 1) (Or.inl U) (by omega)) (ρ.rf U)
  ·intro l T q r E4 l1 l2 l3 l4 l5 l6 l7 E;refine bS E ?_;have W:=l5.1;have x4:Ext h n q r:=⟨by omega,λk F=>by rw[l5.2 k (by omega),B.2 k F]⟩;have G:Cl q r n [.b false,.ns] 310:=⟨by omega,by rw[l5.2 n (by omega)];exact D.2⟩;refine ε<|ξ U (bc l4.2 rfl)<|ψ U U<|uI g (by omega) l6 <| λi H X I j t k5=>aH U U ((G.ext j).2) (pE (iz rfl t.one)) <| λJ L b6=>δ ?_;refine Γ ⟨_,jE rfl (bc L rfl),?_⟩;refine u i H (cG l) J I ((x4.trans j).ab b6 (φ _)) ((t.up j.1).ab b6 (l7.imp k5.2.1 λh=>?_)) (pB l2) (by have:=wN l;omega) (by rw[nU];exact l3);rw[k5.1];omega
  ·rw[Int.toNat_natCast,eN];simp[val]
 cases s with
 | nil=>exact absurd rfl (Jf hf)
 | cons c l=>
  refine θ<|ε<|γ U<|kc U U (by simp)<|aS U U<|δ ?_;refine cm U (λm=>?_) (λm=>Ω ?_)
  ·simp only[nz,aW]at m;have hb:body (c::l)=l:=by simp only[body];rw[ao (by omega)]
   refine ε<|σ U<|aH U U c3.2 (EN rfl rfl) <| λd M b3=>δ ?_;refine aA<|γ U<|wz U U U (by simp) (by omega)<|γ U<|δ ?_;rw[hb]at rest;exact χ (rest true d b3 ⟨c3.1,M⟩) ⟨by show some (st (List.take _ (List.drop 1 (c::l))))=_;simp,rfl,rfl,trivial⟩
  ·simp only[nz,cg]at m;have hb:body (c::l)=c::l:=by simp only[body];rw[Θ (by omega)]
   rw[hb]at rest;exact χ (rest false h2 (λ_ _=>rfl) c3) (ρ.rf U)
end
section
variable {C:Nat->Option aI}{h:Hf}{n:K}{Q:V->Hf->K->Prop}
def dv(s:S):List Nat:=s.map λc=>c.toNat - 48
def R0(a b:S):dv (a++b)=dv a++dv b:=by simp[dv]
def R1(a:S):(dv a).length=a.length:=by simp[dv]
def BC(x:Nat):UInt8:=UInt8.ofNat (48+x % 10)
def R2(x:Nat):(BC x).toNat=48+x % 10:=by unfold BC;rw[UInt8.toNat_ofNat'];omega
def agI(x:Nat):fP (BC x)=true:=by simp only[fP,R2,aK,aW];omega
section
variable {x1:V}{h0:Hf}{n0:K}
def agJ{o:V}{V0 P x:Nat}{L:Nat}{Q1:Ex->Env->Hf->K->Prop}
 (q:∀ds a h n E',ds.length=L+4->L+4<=10000->(∀c∈ds,fP c=true)->val 10 (dv ds)=V0+10 ^ L*x->Gr h0 n0 h n 5 1 a ds.length (uC ds)->ρ [(k1,x1),(k3,a),(k4,o)] E'->Q1 .normal E' h n):
 ∀(j k:Nat) (y:Nat) (ds:S) (a:V) (h:Hf) (n:K),k+j=4->y<10 ^ j->ds.length=L+k->L+4<=10000->(∀c∈ds,fP c=true)->val 10 (dv ds)+10 ^ (L+k)*y=V0+10 ^ L*x->Gr h0 n0 h n 5 1 a ds.length (uC ds)->WC C ach [(k1,x1),(k3,a),(k4,o),(k5,iN y),(k6,iN k)] h n (blk 2 Q1):=by
 intro j
 induction j with
 | zero=>
  intro k y ds a h n r e hl g l hv f;have:k=4:=by omega
  subst this;have s:y=0:=by simp at e;exact e
  subst s;refine ax ?_;refine θ<|ε<|γ U<|ay U U<|δ ?_;exact ae U (by simp)<|aJ (q ds a h n _ hl g l (by simpa using hv) f (ρ.rf U))
 | succ j ih=>
  intro k y ds a h n r e hl g l hv f;refine ax ?_;refine θ<|ε<|γ U<|ay U U<|δ ?_;refine ah U (by simp<;>omega)<|Ω ?_;have H:y<10000:=by have:=JD (k:=j+1) (by omega);omega
  have t:=R2 y;refine θ<|aj<|ε<|γ U<|γ U<|D8 (b:=10) U U (show 0<10 by decide)<|gT U U (show(48:Int)+((y % 10:Nat):Int)=((BC y).toNat:Nat) by omega) ⟨by omega,by omega⟩<|kS U ⟨by omega,by omega⟩<|eg U <| λh1 n1 I u m=>jF U ((f.on m).own) U (κ.whole (len:=1) (by omega) u rfl) (by omega) (by omega) (by omega) (by omega) U ((f.on m).lt) <| λv h2 w z A B D=>γ U<|δ ?_;have p:=(f.on m).app z A B D;have E:uC ds++[V.i .u8 ((BC y).toNat:Nat)]=uC (ds++[BC y]):=by rw[Pk];rfl
  rw[E]at p;refine aA<|γ U<|A4 (b:=10) U U (show 0<10 by decide) ⟨by omega,by omega⟩<|γ U<|δ ?_;refine aA<|γ U<|aX U U ⟨by omega,by omega⟩<|γ U<|δ ?_;refine χ (ih (k+1) (y / 10) (ds++[BC y]) v h2 w (by omega) ?_ (by simp[hl];omega) g ?_ ?_ (by rw[gp];exact p)) (ρ.rf U)
  ·rw[xH (by omega)];rw[fy]at e;exact e
  ·intro c d;rcases gQ.1 d with d | d
   ·exact l c d
   ·simp at d;rw[d];exact agI y
  ·rw[R0,uG,R1,hl,←hv];have F:dv [BC y]=[y % 10]:=by simp[dv,t]
   rw[F];simp only[val,jx,hJ];have J:=tY y 10;have G:10 ^ (L+(k+1))*(y / 10)=10 ^ (L+k)*(10*(y / 10)):=by rw[←j3,fy,gn]
   rw[G,j3,←eV];congr 2;omega
def agK{b1:K}{neg:Bool}{va:V}{a:List Nat}(z:a.length<1000)(o:Sm 10000 a)(c1:Cl h0 n0 b1 [.b neg,va] 310)(l:aF h0 n0 .i64 va a){Q1:Ex->Env->Hf->K->Prop}
 (q:∀ds d h n E',ds.length=4*a.length->(∀c∈ds,fP c=true)->val 10 (dv ds)=val 10000 a->Gr h0 n0 h n 5 1 d ds.length (uC ds)->ρ [(k1,.p b1 0),(k3,d)] E'->Q1 .normal E' h n):
 ∀(m i:Nat) (ds:S) (d:V) (h:Hf) (n:K),a.length - i=m->i<=a.length->ds.length=4*i->(∀c∈ds,fP c=true)->val 10 (dv ds)=val 10000 (a.take i)->Gr h0 n0 h n 5 1 d ds.length (uC ds)->WC C PY [(k1,.p b1 0),(k3,d),(k4,iN i)] h n (blk 0 Q1):=by
 intro m
 induction m with
 | zero=>
  intro i ds d h n hm hi hl k hv e;have:i=a.length:=by omega
  subst this;rw[eN]at hv;have f:=l.at_ e.ext;have g:=c1.ext e.ext;refine ax ?_;refine θ<|ε<|γ U<|σ U<|ξ U (g.ld U _)<|al U f<|ay U U<|δ ?_;exact ae U (by simp)<|aJ (q ds d h n _ hl k hv e (ρ.rf U))
 | succ m ih=>
  intro i ds d h n hm hi hl k hv e;have j:i<a.length:=by omega
  have f:=l.at_ e.ext;have g:=c1.ext e.ext;have r:=f.get j 1;refine ax ?_;refine θ<|ε<|γ U<|σ U<|ξ U (g.ld U _)<|al U f<|ay U U<|δ ?_;refine ah U (by simp<;>omega)<|Ω ?_;refine θ<|aj<|ε<|σ U<|ξ U (g.ld U _)<|γ U<|aB U U f j<|ξ U r<|γ U<|δ ?_;refine ε<|γ U<|δ ?_;have s:val 10 (dv ds)+10 ^ (4*i+0)*a[i]=val 10 (dv ds)+10 ^ (4*i)*a[i]:=by rw[hJ]
  refine aj<|χ (agJ (P:=0) (V0:=val 10 (dv ds)) (x:=a[i]) (L:=4*i) ?_ 4 0 a[i] ds d h n rfl (o.get j) hl (by omega) k s e) (ρ.rf U);intro t u h1 n1 E1 A B v w y s1;refine bS s1 ?_;refine aA<|γ U<|aX U U ⟨by omega,by omega⟩<|γ U<|δ ?_;refine χ (ih (i+1) t u h1 n1 (by omega) (by omega) (by omega) v ?_ y) (ρ.rf U);rw[w,hv,rI,gW j];congr 2;rw[Nat.pow_mul]
def agL{a:V}{ds:S}(hl:ds.length<100000)(g:∀c∈ds,fP c=true)(f:κ h n 1 a ds.length (uC ds)){Q1:Ex->Env->Hf->K->Prop}(hp:0<val 10 (dv ds))
 (j:∀m E',m<=ds.length->Nz (dv (ds.take m))->val 10 (dv (ds.take m))=val 10 (dv ds)->ρ [(k1,x1),(k3,a),(k7,iN m)] E'->Q1 .normal E' h n):
 ∀m,m<=ds.length->val 10 (dv (ds.take m))=val 10 (dv ds)->WC C aci [(k1,x1),(k3,a),(k7,iN m)] h n (blk 4 Q1):=by
 intro m
 induction m with
 | zero=>intro _ hv;rw[←hv]at hp;simp[dv,val]at hp
 | succ m ih=>
  intro hm hv;have b:m<ds.length:=by omega
  have e:((m+1:Nat):Int) - 1=(m:Nat):=by omega
  have k:bj h false 1 (.p a.blk (a.off+m*1))=some (.i .u8 (ds[m].toNat:Nat)):=by rw[jz];exact f.get (Pj b) 1
  have q:=wO (g ds[m] (bK _));have ht:dv (ds.take (m+1))=dv (ds.take m)++[ds[m].toNat - 48]:=by rw[fL b,R0];rfl
  refine ax ?_;refine θ<|ε<|γ U<|γ U<|jR U U e ⟨by omega,by omega⟩<|aB U U f b<|ξ U k<|aS U U<|δ ?_;refine cm U (λd=>?_) (λd=>?_)
  ·simp only[aW]at d;refine Ω ?_;refine aj<|aA<|γ U<|jR U U e ⟨by omega,by omega⟩<|γ U<|δ ?_;refine χ (ih (by omega) ?_) (ρ.rf U);rw[←hv,ht,uG];have:ds[m].toNat - 48=0:=by omega
   simp[this,val]
  ·simp only[cg]at d;refine aJ (j (m+1) _ hm ?_ hv (ρ.rf U));intro l;have o:(dv (ds.take (m+1))).getLast l=ds[m].toNat - 48:=by simp[ht]
   rw[o];omega
def agM{c:V}{ds:S}(hl:ds.length<100000)(l:κ h0 n0 1 c ds.length (uC ds)){Q1:Ex->Env->Hf->K->Prop}{m0:Nat}(z:m0<=ds.length)
 (m:∀vo h n E',Gr h0 n0 h n 5 1 vo ((ds.take m0).reverse).length (uC (ds.take m0).reverse)->ρ [(k8,vo)] E'->Q1 .normal E' h n):
 ∀(j:Nat) (out:S) (vo:V) (h:Hf) (n:K),j<=m0->out=((ds.take m0).drop j).reverse->Gr h0 n0 h n 5 1 vo out.length (uC out)->WC C acj [(k3,c),(k8,vo),(k9,.i .i64 ((j:Int) - 1))] h n (blk 6 Q1):=by
 intro j
 induction j with
 | zero=>
  intro out vo h n hj b a;refine ax ?_;refine θ<|ε<|γ U<|dj U U<|δ ?_;rw[gb]at b;subst b;exact ae U (by simp<;>omega)<|aJ (m vo h n _ a (ρ.rf U))
 | succ j ih=>
  intro out vo h n hj b a;have f:j<ds.length:=by omega
  have e:((j+1:Nat):Int) - 1=(j:Nat):=by omega
  rw[e];have g:=l.at_ a.ext;have o:bj h false 1 (.p c.blk (c.off+j*1))=some (.i .u8 (ds[j].toNat:Nat)):=by rw[jz];exact g.get (Pj f) 1
  have A:out.length<100000:=by rw[b];simp;omega
  refine ax ?_;refine θ<|ε<|γ U<|dj U U<|δ ?_;refine ah U (by simp<;>omega)<|Ω ?_;refine θ<|aj<|aA<|γ U<|γ U<|γ U<|aB U U g f<|ξ U o<|eg U <| λh1 n1 B q d=>jF U ((a.on d).own) U (κ.whole (len:=1) (by omega) q rfl) (by omega) (by omega) (by omega) (by omega) U ((a.on d).lt) <| λr h2 s t u v w=>γ U<|δ ?_;have k:=(a.on d).app t u v w;have x:uC out++[V.i .u8 (ds[j].toNat:Nat)]=uC (out++[ds[j]]):=by rw[Pk];rfl
  rw[x]at k;refine aA<|γ U<|gG U U ⟨by omega,by omega⟩<|γ U<|δ ?_;refine χ (ih (out++[ds[j]]) r h2 s (by omega) ?_ (by rw[gp];exact k)) (ρ.rf U);have y:j<(ds.take m0).length:=by simp;omega
  rw[eo y,List.reverse_cons,b];congr 2;simp
end
def agO(y:Cd C){va:V}{a:List Nat}(z:a.length<1000)(q:dC 10000 a)(r:aF h n .i64 va a)(s:∀w h' n',Ext h n h' n'->(w=[49]↔val 10000 a=1)->Q (st w) h' n'):ν C (.f 258 [] []) [.a [.b false,va]] h n Q:=by
 refine ν.go y.f258 U ?_;have A:=r.one;refine ε<|cR U U (iz rfl A) <| λh1 n1 P D d=>γ U<|δ ?_;have c1:Cl h1 n1 n [.b false,va] 310:=⟨by omega,D⟩;have t:=(r.at_ d).up d.1;refine θ<|ε<|σ U<|ξ U (c1.ld U _)<|al U t<|aS U U<|δ ?_;by_cases h0:a=[]
 ·subst h0;refine ah U U ?_;refine ε<|γ U<|δ ?_;exact Γ ⟨_,rfl,s [48] _ _ d (by simp[val])⟩
 ·have R:0<a.length:=by cases a with | nil=>exact absurd rfl h0 | cons=>simp
  have S:0<val 10000 a:=tV λe=>h0 ((val_zero (B:=10000) q.2 (by omega)).1 e);refine ae U (by simp<;>omega)<|Ω ?_;refine ε<|γ U<|δ ?_;refine θ<|ε<|γ U<|δ ?_;refine aj<|χ (agK (h0:=h1) (n0:=n1) z q.1 c1 t ?_ _ 0 [] .ns h1 n1 rfl (by omega) U (by simp) (by simp[dv,val]) (Gr.ns (Ext.refl h1 n1))) (ρ.rf U);intro ds T h2 i E2 W j E k F;refine bS F ?_;have l:=k.sl;refine ε<|γ U<|al U l<|γ U<|δ ?_;refine θ<|aj<|χ (agL (x1:=.p n 0) (by omega) j l (by omega) ?_ _ (φ _) (by rw[eN])) (ρ.rf U);intro m E3 m1 G H I;refine bS I ?_;have c2:=c1.ext k.ext;refine ε<|γ U<|δ ?_;refine θ<|ε<|σ U<|ξ U (c2.ld U _)<|δ ?_;refine ae U U<|Ω ?_;refine θ<|ε<|γ U<|gG U U ⟨by omega,by omega⟩<|γ U<|δ ?_;refine aj<|χ (agM (h0:=h2) (n0:=i) (by omega) l m1 ?_ m [] .ns h2 i (φ _) (by rw[oo (by simp;omega)];rfl) (Gr.ns (Ext.refl h2 i))) (ρ.rf U);intro vo J L E4 u M;refine bS M ?_;refine ε<|γ U<|aa0 U u.sl<|γ U<|δ ?_;refine Γ ⟨_,rfl,s _ J L ((d.trans k.ext).trans u.ext) ?_⟩;have N:Sm 10 (dv (ds.take m)):=by intro x g;simp only[dv,List.mem_map]at g;obtain⟨c,o,rfl⟩:=g;have:=wO (j c (qX o));omega
  rw[←E,←H];constructor
  ·intro O;have:ds.take m=[49]:=by rw[←List.reverse_reverse (ds.take m),O];rfl
   rw[this];decide
  ·intro hv;have h1:dv (ds.take m)=[1]:=val_inj (B:=10) ⟨N,G⟩ ⟨by intro x g;simp at g;omega,λ_=>by simp⟩ (by omega) (by rw[hv];decide);have hlen:(ds.take m).length=1:=by rw[←R1,h1];rfl
   match v:ds.take m,hlen with
   | [c],_=>
    rw[v]at h1;simp only[dv,gB,List.map_nil,List.cons.injEq,and_true]at h1;have o:c∈ds:=qX (by rw[v];simp);have:=wO (j c o);have:c.toNat=49:=by omega
    rw[show c=49 from UInt8.toNat_inj.1 this];rfl
end
section
variable {C:Nat->Option aI}{h:Hf}{n:K}{Q:V->Hf->K->Prop}
def ES{s:S}(h:fm s=0):s.length<=121:=by have:=(yA h).2;have:=Bo s;omega
def agP{s:S}(h:0<s.length):isNeg s=decide (s[0].toNat=45):=by
 cases s with
 | nil=>simp at h
 | cons c l=>rfl
def BD(a b:Int):et [a,b]=if a≠0 then a else b:=by simp only[et];by_cases h:a=0<;>simp[h];by_cases h2:b=0<;>simp[h2]
def JH(a b c:Int):et [a,b,c]=if a≠0 then a else if b≠0 then b else c:=by simp only[et];by_cases h:a=0<;>by_cases h2:b=0<;>by_cases d:c=0<;>simp[h,h2,d]
def R3(a b c d:Int):et [a,b,c,d]=if a≠0 then a else if b≠0 then b else if c≠0 then c else d:=by simp only[et];by_cases h:a=0<;>by_cases h2:b=0<;>by_cases e:c=0<;>by_cases f:d=0<;>simp[h,h2,e,f]
def R4(c:Cd C){s:S}(hlen:s.length<1000000)(d:∀h' n',Ext h n h' n'->Q (.i .i64 (lS s)) h' n'):ν C (.f 194 [] []) [st s] h n Q:=by
 refine ν.go c.f194 U ?_;refine ε<|γ U<|δ ?_;cases hs:jU s with
 | none=>
  have hv:=Ju hs;have key:∀{Q:V->Hf->K->Prop},Q (.u [st [],st [],.b false]) h n->ν C (.f 257 [] []) [st s] h n Q:=λd=>RN c hlen (by rw[hv];exact d);refine ε<|γ U<|ψ U U<|key<|γ U<|bF U U<|bF U U<|bF U U<|γ U<|γ U<|γ U<|δ ?_;refine θ<|ε<|γ U<|bZ U<|δ ?_;refine ah U U ?_;refine ε<|γ U<|δ (Γ ⟨_,rfl,by have:=d h n (Ext.refl h n);rw[lS,hs]at this;exact this⟩)
 | some H=>
  obtain⟨p,q⟩:=H;have hv:wK s=.u [st p,st q,.b true]:=by unfold wK;rw[hs]
  have I:=afK hs;have key:∀{Q:V->Hf->K->Prop},Q (.u [st p,st q,.b true]) h n->ν C (.f 257 [] []) [st s] h n Q:=λd=>RN c hlen (by rw[hv];exact d);simp only[lS,hs]at d;refine ε<|γ U<|ψ U U<|key<|γ U<|bF U U<|bF U U<|bF U U<|γ U<|γ U<|γ U<|δ ?_;refine θ<|ε<|γ U<|bZ U<|δ ?_;refine ae U U<|Ω ?_;refine θ<|ε<|γ U<|ψ U U<|yC c (by omega)<|γ U<|ψ U U<|yC c (by omega)<|eg U <| λh1 n1 cA J r=>ψ U U<|zt c.f48 (l:=[fm p,fm q]) (κ.whole (len:=2) (by omega) J rfl) (by simp)<|γ U<|δ ?_;rw[BD];refine ε<|γ U<|dR U U<|δ ?_;by_cases hp:fm p=0
  ·by_cases j:fm q=0
   ·refine ae U (by simp[hp,j])<|Ω ?_;simp only[hp,j,ne_eq,not_true_eq_false,if_false]at d;obtain⟨L,lp⟩:=yA hp;obtain⟨k,lq⟩:=yA j;have I:=ES hp;have F4:=ES j;have t:0<q.length:=by cases q with | nil=>exact absurd rfl (Jf k) | cons=>simp
    have y:=agP t;have v:∀(b:Bool) h' n',Ext h1 n1 h' n'->b=decide (isNeg q=true\/dec (body q)=0\/Nat.gcd (dec (body p)) (dec (body q))≠1)->Q (.i .i64 (if b then 1 else 0)) h' n':=by
     intro b h' n' e hb;have:=d h' n' (r.trans e);rw[hb];by_cases m:(isNeg q=true\/dec (body q)=0\/Nat.gcd (dec (body p)) (dec (body q))≠1)
     ·rw[ao m]at this;simpa[m]using this
     ·rw[Θ m]at this;simpa[m]using this
    by_cases a:q=[48]
    ·refine ε<|γ U<|eC (b:=[48]) U U<|γ U<|μ U (by simp[a])<|μ U (by simp[a])<|μ U (by simp[a])<|aU U (by simp[a]) U<|γ U<|μ U U<|μ U U<|μ U U<|μ U U<|μ U U<|μ U U<|μ U U<|aU U U U<|ψ U U<|lF c<|γ U<|δ ?_;refine Γ ⟨_,rfl,v true _ _ (Ext.refl _ _) ?_⟩;have:dec (body q)=0:=(Ji k).2 a;simp[this]
    ·have M:¬ dec (body q)=0:=λe=>a ((Ji k).1 e);by_cases z:q[0].toNat=45
     ·refine ε<|γ U<|eC (b:=[48]) U U<|γ U<|ζ U (by simp[a])<|γ U<|ζ U (by simp[a])<|kc U U t<|ζ U (by simp[a])<|aS U U<|aL U (by simp[a]) U<|γ U<|μ U (by simp<;>omega)<|μ U (by simp<;>omega)<|μ U (by simp<;>omega)<|μ U (by simp<;>omega)<|μ U (by simp<;>omega)<|μ U (by simp<;>omega)<|μ U (by simp<;>omega)<|aU U (by simp<;>omega) U<|ψ U U<|lF c<|γ U<|δ ?_;refine Γ ⟨_,rfl,v true _ _ (Ext.refl _ _) ?_⟩;simp[y,z]
     ·refine ε<|γ U<|eC (b:=[48]) U U<|γ U<|ζ U (by simp[a])<|γ U<|ζ U (by simp[a])<|kc U U t<|ζ U (by simp[a])<|aS U U<|aL U (by simp[a]) U<|γ U<|ζ U (by simp<;>omega)<|γ U<|ζ U (by simp<;>omega)<|ψ U U<|RZ c (by omega) L <| λna va la h2 n2 N O P l2 R=>ζ U (by simp<;>omega)<|γ U<|ζ U (by simp<;>omega)<|ψ U U<|RZ c (by omega) k <| λnb vb lb h3 n3 A T D l3 E=>ζ U (by simp<;>omega)<|ψ U U<|agD c (by omega) (by omega) P D (O.ext A) T <| λvg g h4 n4 W X F G=>ζ U (by simp<;>omega)<|ψ U U<|agO c (?_) F X <| λw h5 n5 Y x=>ζ U (by simp<;>omega)<|rA (b:=[49]) U U<|aL U (by simp<;>omega) U<|ψ U U<|lF c<|γ U<|δ ?_
      ·have Z:0<val 10000 lb:=by rw[E];omega
       have:=nV (B:=10000) F.2 D.1 (by omega) (by rw[G];exact Nat.le_of_dvd Z (Nat.gcd_dvd_right _ _));omega
      ·refine Γ ⟨_,rfl,v _ _ _ (((N.trans A).trans W).trans Y) ?_⟩;rw[G,R,E]at x;by_cases o:w=[49]
       ·have:=x.1 o;simp[o,this,y,z,M]
       ·have:¬ Nat.gcd (dec (body p)) (dec (body q))=1:=λe=>o (x.2 e);simp[o,this]
   ·refine ah U (by simp[hp,j]) ?_;simp only[hp,j,ne_eq,not_true_eq_false,if_false,not_false_eq_true,if_true]at d ⊢;refine ε<|γ U<|γ U<|δ (Γ ⟨_,rfl,d _ _ r⟩)
  ·refine ah U (by simp[hp]) ?_;simp only[hp,ne_eq,not_false_eq_true,if_true]at d ⊢;refine ε<|γ U<|γ U<|δ (Γ ⟨_,rfl,d _ _ r⟩)
def isNumeral(s:S):Bool:=decide (fm s=0)||decide (lS s=0)
def agQ(c:Cd C){s:S}(hlen:s.length<1000000)(d:∀h' n',Ext h n h' n'->Q (.b (isNumeral s)) h' n'):ν C (.f 192 [] []) [st s] h n Q:=by
 refine ν.go c.f192 U ?_;refine ε<|γ U<|δ ?_;unfold isNumeral at d;by_cases a:fm s=0
 ·refine ε<|γ U<|ψ U U<|yC c hlen<|aS U U<|γ U<|μ U (by simp[a])<|μ U (by simp[a])<|μ U (by simp[a])<|aU U (by simp[a]) U<|γ U<|δ (Γ ⟨_,rfl,by simpa[a]using d _ _ (Ext.refl _ _)⟩)
 ·refine ε<|γ U<|ψ U U<|yC c hlen<|aS U U<|γ U<|ζ U (by simp[a])<|γ U<|ζ U (by simp[a])<|ψ U U<|R4 c hlen <| λh1 n1 e=>ζ U (by simp[a])<|aS U U<|aL U (by simp[a]) U<|γ U<|δ (Γ ⟨_,rfl,by simpa[a]using d _ _ e⟩)
def mZ(c:UInt8):Bool:=!(decide (c.toNat=32)||decide (c.toNat=10)||decide (c.toNat=40)||decide (c.toNat=41)||decide (c.toNat=123)||decide (c.toNat=125))
def lf(s:S):Bool:=!decide (s.length=0)&&(!decide (200<s.length)&&s.all mZ)
def agR{s:S}(hl:s.length<10000000):∀(m i:Nat),s.length - i=m->i<=s.length->Q (.b ((s.drop i).all mZ)) h n->WC C PZ [(k0,st s),(k3,iN i)] h n (blk 0 (sq C Ik (fq [.t k2] Q))):=by
 intro m
 induction m with
 | zero=>
  intro i hm hi a;refine ax ?_;refine θ<|ε<|γ U<|γ U<|bN U<|ay U U<|δ ?_;refine ae U (by simp<;>omega)<|aJ ?_;have:i=s.length:=by omega
  subst this;refine ε<|γ U<|δ (Γ ⟨_,rfl,by simpa using a⟩)
 | succ m ih=>
  intro i hm hi a;have k:i<s.length:=by omega
  rw[eo k,List.all_cons]at a;have yes:mZ s[i]=false->WC C P2 [(FX,.b true)] h n (blk 2 (blk 1 (sq C P3 (sq C (.loop Eh) (blk 0 (sq C Ik (fq [.t k2] Q))))))):=by intro hp;rw[hp]at a;refine ah U U ?_;refine ε<|γ U<|δ (Γ ⟨_,rfl,a⟩)
  have no:mZ s[i]=true->WC C P2 [(k0,st s),(k3,iN i),(FX,.b false)] h n (blk 2 (blk 1 (sq C P3 (sq C (.loop Eh) (blk 0 (sq C Ik (fq [.t k2] Q))))))):=by intro hp;rw[hp]at a;refine ae U U<|Ω ?_;refine aA<|γ U<|aX U U ⟨by omega,by omega⟩<|γ U<|δ ?_;exact χ (ih (i+1) (by omega) (by omega) (by simpa using a)) (ρ.rf U)
  refine ax ?_;refine θ<|ε<|γ U<|γ U<|bN U<|ay U U<|δ ?_;refine ah U (by simp<;>omega)<|Ω ?_;refine θ<|aj<|ε<|γ U<|γ U<|kc U U k<|δ ?_;generalize o:s[i]=c at*;refine aj<|θ<|ε<|aS U U<|γ U<|δ ?_;refine cm U (λd=>Ω ?_) (λd=>?_)
  ·simp only[aW]at d;exact χ (yes (by simp[mZ];omega)) ⟨by show some (V.b _)=_;simp[d],trivial⟩
  simp only[cg]at d;refine ε<|aS U U<|γ U<|δ ?_;refine cm U (λe=>Ω ?_) (λe=>?_)
  ·simp only[aW]at e;exact χ (yes (by simp[mZ];omega)) ⟨by show some (V.b _)=_;simp[e],trivial⟩
  simp only[cg]at e;refine ε<|aS U U<|γ U<|δ ?_;refine cm U (λf=>Ω ?_) (λf=>?_)
  ·simp only[aW]at f;exact χ (yes (by simp[mZ];omega)) ⟨by show some (V.b _)=_;simp[f],trivial⟩
  simp only[cg]at f;refine ε<|aS U U<|γ U<|δ ?_;refine cm U (λg=>Ω ?_) (λg=>?_)
  ·simp only[aW]at g;exact χ (yes (by simp[mZ];omega)) ⟨by show some (V.b _)=_;simp[g],trivial⟩
  simp only[cg]at g;refine ε<|aS U U<|γ U<|δ ?_;refine cm U (λj=>Ω ?_) (λj=>?_)
  ·simp only[aW]at j;exact χ (yes (by simp[mZ];omega)) ⟨by show some (V.b _)=_;simp[j],trivial⟩
  simp only[cg]at j;refine aA<|aS U U<|γ U<|δ ?_;by_cases l:(c.toNat:Int)=125
  ·exact χ (yes (by simp[mZ];omega)) ⟨by show some (V.b _)=_;simp[l],trivial⟩
  ·exact χ (no (by simp[mZ];omega)) ⟨rfl,rfl,by show some (V.b _)=_;simp[l],trivial⟩
def agS(c:Cd C){s:S}(hlen:s.length<10000000)(a:Q (.b (lf s)) h n):ν C (.f 130 [] []) [st s] h n Q:=by
 refine ν.go c.f130 U ?_;refine ε<|γ U<|δ ?_;unfold lf at a;by_cases h1:s.length=0
 ·refine θ<|ε<|γ U<|bN U<|aS U U<|γ U<|μ U (by simp[h1])<|μ U (by simp[h1])<|μ U (by simp[h1])<|aU U (by simp[h1]) U<|δ ?_;refine ah U U ?_;refine ε<|γ U<|δ (Γ ⟨_,rfl,by simpa[h1]using a⟩)
 ·refine θ<|ε<|γ U<|bN U<|aS U U<|γ U<|ζ U (by simp[h1])<|γ U<|ζ U (by simp[h1])<|bN U<|ζ U (by simp[h1])<|bC U U<|aL U (by simp[h1]) U<|δ ?_;by_cases h2:200<s.length
  ·refine ah U (by simp<;>omega) ?_;refine ε<|γ U<|δ (Γ ⟨_,rfl,by simpa[h2]using a⟩)
  ·refine ae U (by simp<;>omega)<|Ω ?_;refine θ<|ε<|γ U<|δ ?_;exact aj<|χ (agR hlen _ 0 rfl (by omega) (by simpa[h1,h2]using a)) (ρ.rf U)
def Wf(a:Cd C){s:S}(hlen:s.length<10000000)(c:Q (.b (lf s)) h n):ν C (.f 50 [] []) [st s] h n Q:=by refine ν.go a.f50 U ?_;refine ε<|γ U<|δ ?_;refine ε<|γ U<|ψ U U<|agS a hlen<|γ U<|δ (Γ ⟨_,rfl,c⟩)
def JJ(c:Cd C){op:Int}(a:Q (.b (decide (op=17\/op=18))) h n):ν C (.f 66 [] []) [.i .i64 op] h n Q:=by
 refine ν.go c.f66 U ?_;refine ε<|γ U<|δ ?_;by_cases h1:op=17
 ·refine ε<|γ U<|aS U U<|γ U<|μ U (by simp[h1])<|μ U (by simp[h1])<|aU U (by simp[h1]) U<|γ U<|δ (Γ ⟨_,rfl,by simpa[h1]using a⟩)
 ·refine ε<|γ U<|aS U U<|γ U<|ζ U (by simp[h1])<|γ U<|ζ U (by simp[h1])<|aS U U<|aL U (by simp[h1]) U<|γ U<|δ (Γ ⟨_,rfl,by simpa[h1]using a⟩)
def agT{v:V}{l:List (S×S)}{name:S}(hv:du h n v l)(hlen:l.length<1000000):∀(m i:Nat),l.length - i=m->i<=l.length->Q (.i .i64 (iP name (l.drop i) i)) h n->WC C aco [(k0,v),(k1,st name),(k5,iN i)] h n (blk 0 (sq C acp (fq [.t k4] Q))):=by
 intro m
 induction m with
 | zero=>
  intro i hm hi a;have:i=l.length:=by omega
  subst this;refine ax ?_;refine θ<|ε<|γ U<|γ U<|al U hv<|ay U U<|δ ?_;refine ae U (by simp)<|aJ ?_;refine ε<|γ U<|δ (Γ ⟨_,rfl,by simpa[iP]using a⟩)
 | succ m ih=>
  intro i hm hi a;have c:i<l.length:=by omega
  rw[eo c,iP]at a;refine ax ?_;refine θ<|ε<|γ U<|γ U<|al U hv<|ay U U<|δ ?_;refine ah U (by simp<;>omega)<|Ω ?_;refine θ<|aj<|ε<|γ U<|γ U<|aB U U hv c<|σ U<|ξ U (hv.name c _)<|γ U<|eC U U<|δ ?_;refine cm U (λb=>?_) (λb=>Ω ?_)
  ·simp only[aW]at b;rw[ao b]at a;refine ε<|γ U<|γ U<|δ (Γ ⟨_,rfl,a⟩)
  ·simp only[cg]at b;rw[Θ b]at a;refine aA<|γ U<|aX U U ⟨by omega,by omega⟩<|γ U<|δ ?_;exact χ (ih (i+1) (by omega) (by omega) a) (ρ.rf U)
def uK(a:Cd C){v:V}{l:List (S×S)}{name:S}(hv:du h n v l)(hlen:l.length<1000000)(b:Q (.i .i64 (iP name l 0)) h n):ν C (.f 117 [] []) [v,st name] h n Q:=by refine ν.go a.f117 U ?_;refine ε<|γ U<|δ ?_;refine θ<|ε<|γ U<|δ ?_;exact aj<|χ (agT hv hlen _ 0 rfl (by omega) b) (ρ.rf U)
end
section
variable {C:Nat->Option aI}{h:Hf}{n:K}{Q:V->Hf->K->Prop}
def gL(op:Int)(k:Nat):Bool:=
 if op=0\/op=1\/op=2\/op=3 then decide (k=0) else if op=4\/op=6\/op=7 then true else if op=5 then decide (k=1) else if op=10 then decide (k=3)
 else if op=17\/op=18\/op=19 then decide (1<=k) else decide (k=2)
def jm(x:Nd){vv kv:V}(hv:vv.one=true)(a:kv.one=true):aD (bW x vv kv)=true:=by simp only[bW,aD,hv,a];rfl
def R5(D:Cd C){x:Nd}{vv kv:V}(hv:vv.one=true)(g:da h n .i64 kv x.kids)(c:∀h' n',Ext h n h' n'->Q (.b (gL x.op x.kids.length)) h' n'):ν C (.f 108 [] []) [.a (bW x vv kv)] h n Q:=by
 refine ν.go D.f108 U ?_;refine ε<|cR U U (jm x hv (κ.one g)) <| λh1 n1 J y E=>γ U<|δ ?_;have lo:bj h1 false 1 (.p n (0+0))=some (.i .i64 x.op):=cE y rfl _;have lk:bj h1 false 1 (.p n (0+4))=some kv:=cE y rfl _;have c:=c h1 n1 E;refine θ<|ε<|σ U<|ξ U lo<|δ ?_;generalize L:x.op=op at*;have f6:op=0\/op=1\/op=2\/op=3->WC C PJ [(k1,.p n 0),(k5,.b true)] h1 n1 (blk 0 (sq C Ef (fq [.t k2] Q))):=by
  intro l;refine ah U U ?_;have e:gL op x.kids.length=decide ((x.kids.length:Int)=0):=by simp only[gL,ao l];simp
  refine ε<|σ U<|ξ U lk<|al U g<|aS U U<|γ U<|δ (Γ ⟨_,rfl,by rw[e]at c;exact c⟩)
 have F:¬ (op=0\/op=1\/op=2\/op=3)->¬ (op=4\/op=6\/op=7)->op≠5->op≠10->¬ (op=17\/op=18\/op=19)->WC C Ef [(k1,.p n 0)] h1 n1 (fq [.t k2] Q):=by
  intro g1 j G H I;have e:gL op x.kids.length=decide ((x.kids.length:Int)=2):=by simp only[gL,Θ g1,Θ j,Θ G,Θ H,Θ I];simp;omega
  refine ε<|σ U<|ξ U lk<|al U g<|aS U U<|γ U<|δ (Γ ⟨_,rfl,by rw[e]at c;exact c⟩)
 refine aj<|θ<|ε<|aS U U<|γ U<|δ ?_;refine cm U (λm=>Ω ?_) (λm=>?_)
 ·simp only[aW]at m;exact χ (f6 (by omega)) ⟨rfl,by show some (V.b _)=_;simp[m],trivial⟩
 simp only[cg]at m;refine ε<|aS U U<|γ U<|δ ?_;refine cm U (λo=>Ω ?_) (λo=>?_)
 ·simp only[aW]at o;exact χ (f6 (by omega)) ⟨rfl,by show some (V.b _)=_;simp[o],trivial⟩
 simp only[cg]at o;refine ε<|aS U U<|γ U<|δ ?_;refine cm U (λq=>Ω ?_) (λq=>?_)
 ·simp only[aW]at q;exact χ (f6 (by omega)) ⟨rfl,by show some (V.b _)=_;simp[q],trivial⟩
 simp only[cg]at q;refine aA<|aS U U<|γ U<|δ ?_;by_cases z:op=3
 ·exact χ (f6 (by omega)) ⟨rfl,by show some (V.b _)=_;simp[z],trivial⟩
 have g1:¬ (op=0\/op=1\/op=2\/op=3):=by omega
 have f11:op=4\/op=6\/op=7->WC C PL [(k1,.p n 0),(A0,.b true)] h1 n1 (blk 0 (sq C Ef (fq [.t k2] Q))):=by
  intro l;refine ah U U ?_;have e:gL op x.kids.length=true:=by simp only[gL,Θ g1,ao l]
  refine ε<|γ U<|δ (Γ ⟨_,rfl,by rw[e]at c;exact c⟩)
 refine ae U (by simp[z]) ?_;refine θ<|ε<|aS U U<|γ U<|δ ?_;refine cm U (λr=>Ω ?_) (λr=>?_)
 ·simp only[aW]at r;exact χ (f11 (by omega)) ⟨rfl,by show some (V.b _)=_;simp[r],trivial⟩
 simp only[cg]at r;refine ε<|aS U U<|γ U<|δ ?_;refine cm U (λs=>Ω ?_) (λs=>?_)
 ·simp only[aW]at s;exact χ (f11 (by omega)) ⟨rfl,by show some (V.b _)=_;simp[s],trivial⟩
 simp only[cg]at s;refine aA<|aS U U<|γ U<|δ ?_;by_cases A:op=7
 ·exact χ (f11 (by omega)) ⟨rfl,by show some (V.b _)=_;simp[A],trivial⟩
 have j:¬ (op=4\/op=6\/op=7):=by omega
 refine ae U (by simp[A]) ?_;refine ε<|aS U U<|γ U<|δ ?_;refine cm U (λd=>?_) (λd=>?_)
 ·simp only[aW]at d;have e:gL op x.kids.length=decide ((x.kids.length:Int)=1):=by simp only[gL,Θ g1,Θ j,ao d];simp;omega
  refine ε<|σ U<|ξ U lk<|al U g<|aS U U<|γ U<|δ (Γ ⟨_,rfl,by rw[e]at c;exact c⟩)
 simp only[cg]at d;refine ε<|aS U U<|γ U<|δ ?_;refine cm U (λk=>?_) (λk=>?_)
 ·simp only[aW]at k;have e:gL op x.kids.length=decide ((x.kids.length:Int)=3):=by simp only[gL,Θ g1,Θ j,Θ d,ao k];simp;omega
  refine ε<|σ U<|ξ U lk<|al U g<|aS U U<|γ U<|δ (Γ ⟨_,rfl,by rw[e]at c;exact c⟩)
 simp only[cg]at k;have w:op=17\/op=18\/op=19->WC C abX [(k1,.p n 0),(k30,.b true)] h1 n1 (blk 0 (sq C Ef (fq [.t k2] Q))):=by
  intro l;refine ah U U ?_;have e:gL op x.kids.length=decide (1<=(x.kids.length:Int)):=by simp only[gL,Θ g1,Θ j,Θ d,Θ k,ao l];simp;omega
  refine ε<|σ U<|ξ U lk<|al U g<|dj U U<|γ U<|δ (Γ ⟨_,rfl,by rw[e]at c;exact c⟩)
 refine θ<|ε<|aS U U<|γ U<|δ ?_;refine cm U (λu=>Ω ?_) (λu=>?_)
 ·simp only[aW]at u;exact χ (w (by omega)) ⟨rfl,by show some (V.b _)=_;simp[u],trivial⟩
 simp only[cg]at u;refine ε<|aS U U<|γ U<|δ ?_;refine cm U (λv=>Ω ?_) (λv=>?_)
 ·simp only[aW]at v;exact χ (w (by omega)) ⟨rfl,by show some (V.b _)=_;simp[v],trivial⟩
 simp only[cg]at v;refine aA<|aS U U<|γ U<|δ ?_;by_cases B:op=19
 ·exact χ (w (by omega)) ⟨rfl,by show some (V.b _)=_;simp[B],trivial⟩
 refine ae U (by simp[B])<|Ω ?_;exact χ (F g1 j d k (by omega)) (ρ.rf U)
end
end Go.Ev.X
