/- A part of the proof. -/
import Derived.Test.YtjflaalpkjchoaaGreatDoorD
set_option linter.all false
namespace Go.Ev.X
section
def val(B:Nat):List Nat->Nat
 | []=>0
 | a::l=>a+B*val B l
def Sm(B:Nat)(l:List Nat):Prop:=∀a∈l,a<B
def Nz(l:List Nat):Prop:=∀(h:l≠[]),l.getLast h≠0
def gZ(B:Nat)(l:List Nat):Prop:=Sm B l/\Nz l
def eM:List Nat->List Nat
 | []=>[]
 | a::l=>match eM l with
  | []=>if a=0 then [] else [a]
  | b::m=>a::b::m
section
variable {B:Nat}
def Sm.nil:Sm B []:=λa h=>by cases h
def Sm.cons{a:Nat}{l:List Nat}(h:a<B)(hl:Sm B l):Sm B (a::l):=λx b=>by
 cases b with
 | head=>exact h
 | tail _ b=>exact hl x b
def Sm.tail{a:Nat}{l:List Nat}(h:Sm B (a::l)):Sm B l:=λx b=>h x (by simp[b])
def Sm.get{l:List Nat}(h:Sm B l){i:Nat}(hi:i<l.length):l[i]<B:=h _ (bL _)
def Sm.take{l:List Nat}(h:Sm B l)(i:Nat):Sm B (l.take i):=λx a=>h x (tN a)
def Sm.set{l:List Nat}(h:Sm B l){i x:Nat}(b:x<B):Sm B (l.set i x):=λy a=>by
 rcases List.mem_or_eq_of_mem_set a with a | rfl
 ·exact h y a
 ·exact b
def Sm.getD{l:List Nat}(h:Sm B l)(hB:0<B)(i:Nat):l.getD i 0<B:=by
 rw[dY];by_cases hi:i<l.length
 ·rw[aX hi];exact h.get hi
 ·rw[ml (by omega)];exact hB
def Sm.rep(hB:0<B)(n:Nat):Sm B (List.replicate n 0):=λx a=>by rw[List.eq_of_mem_replicate a];exact hB
def FM(l m:List Nat):val B (l++m)=val B l+B ^ l.length*val B m:=by
 induction l with
 | nil=>simp[val]
 | cons a l ih=>simp only[j8,val,ih,eh,iM,iO,mj];rw[eR (B ^ l.length) B,jT]
def Kk(l:List Nat)(i:Nat):val B l=val B (l.take i)+B ^ (l.take i).length*val B (l.drop i):=by rw[←FM,Et]
def tx{l:List Nat}(h:Sm B l):val B l<B ^ l.length:=by
 induction l with
 | nil=>simp[val]
 | cons a l ih=>
  have h1:=ih h.tail;have h2:=h a (by simp);simp only[val,eh,iM];have:B*(val B l+1)<=B*B ^ l.length:=sL _ h1;rw[iO,kp]at this;rw[eR (B ^ l.length)];omega
def ahH(n:Nat):val B (List.replicate n 0)=0:=by
 induction n with
 | zero=>rfl
 | succ n ih=>simp[xo,val,ih]
def SX(l:List Nat){i:Nat}(hi:i<l.length)(x:Nat):val B (l.set i x)+B ^ i*l[i]=val B l+B ^ i*x:=by
 induction l generalizing i with
 | nil=>simp at hi
 | cons a l ih=>
  cases i with
  | zero=>simp[val];omega
  | succ i=>
   have b:i<l.length:=by simpa using hi
   have h:=ih b;simp only[qe,val,oV,iM];have h1:B*(val B (l.set i x)+B ^ i*l[i])=B*(val B l+B ^ i*x):=by rw[h]
   rw[iO,iO]at h1;rw[eR (B ^ i) B,jT,jT];omega
def Cx(l:List Nat)(i:Nat):val B (l.take (i+1))=val B (l.take i)+B ^ i*l.getD i 0:=by
 by_cases hi:i<l.length
 ·rw[gm hi,FM];simp only[val,ov,ou,j6];rw[qf (by omega),dY,aX hi];rfl
 ·rw[ot (by omega),ot (by omega),dY,ml (by omega)];simp
def Ah(l:List Nat){i:Nat}(hi:i<l.length):val B (l.drop i)=l[i]+B*val B (l.drop (i+1)):=by rw[gL hi,val]
def yc(l:List Nat):val B (eM l)=val B l:=by
 induction l with
 | nil=>rfl
 | cons a l ih=>
  simp only[eM];split
  ·rename_i h;rw[h]at ih;split
   ·rename_i c;simp only[val,←ih,c];simp[val]
   ·simp only[val,←ih]
  ·rename_i b m h;rw[h]at ih;rw[val,ih];rfl
def ahI(l:List Nat):∀x∈eM l,x∈l:=by
 induction l with
 | nil=>intro x h;cases h
 | cons a l ih=>
  intro x c;simp only[eM]at c;split at c
  ·split at c
   ·cases c
   ·simp at c;simp[c]
  ·rename_i b m h;rw[h]at ih;cases c with
   | head=>simp
   | tail _ c=>simp[ih x c]
def SY{l:List Nat}(h:Sm B l):Sm B (eM l):=λx a=>h x (ahI l x a)
def ahJ(l:List Nat):Nz (eM l):=by
 induction l with
 | nil=>intro h;exact absurd rfl h
 | cons a l ih=>
  rw[eM];cases hs:eM l with
  | nil=>
   simp only;by_cases c:a=0
   ·simp only[c,if_true];intro h;exact absurd rfl h
   ·simp only[c,if_false];intro h;simpa using c
  | cons b m=>
   rw[hs]at ih;intro h;have:=ih (by simp);show(a::b::m).getLast _≠0;rw[List.getLast_cons (by simp)];exact this
def Ai{l:List Nat}(h:Sm B l):gZ B (eM l):=⟨SY h,ahJ l⟩
def ahK{l:List Nat}(h:Nz l):eM l=l:=by
 induction l with
 | nil=>rfl
 | cons a l ih=>
  have hl:Nz l:=λc=>by have:=h (by simp);rw[List.getLast_cons c]at this;exact this
  rw[eM,ih hl];cases l with
  | nil=>
   have:=h (by simp);simp at this;simp[this]
  | cons b m=>rfl
def ahL(l:List Nat):eM (l++[0])=eM l:=by
 induction l with
 | nil=>rfl
 | cons a l ih=>rw[j8,eM,ih,eM]
def ahM(l:List Nat){x:Nat}(a:x≠0):eM (l++[x])=l++[x]:=ahK λh=>by simpa using a
def gZ.nil:gZ B []:=⟨Sm.nil,λh=>absurd rfl h⟩
def FN{l:List Nat}(h:Nz l)(hB:0<B)(a:l≠[]):B ^ (l.length - 1)<=val B l:=by have h1:=h a;have h2:l=l.dropLast++[l.getLast a]:=(List.dropLast_concat_getLast a).symm;rw[h2,FM];simp only[val,ou,j6,jz,List.length_singleton,Nat.add_sub_cancel,List.length_dropLast];have:B ^ (l.length - 1)*1<=B ^ (l.length - 1)*l.getLast a:=sL _ (by omega);omega
def val_zero{l:List Nat}(h:Nz l)(hB:0<B):val B l=0↔l=[]:=by
 constructor
 ·intro hv;by_cases a:l=[]
  ·exact a
  ·have:=FN h hB a;have:0<B ^ (l.length - 1):=Nat.pow_pos hB;omega
 ·rintro rfl;rfl
def uC{l m:List Nat}(hl:Nz l)(hm:Sm B m)(hB:1<B)(h:val B l<=val B m):l.length<=m.length:=by
 by_cases a:l=[]
 ·simp[a]
 ·have h1:=FN (B:=B) hl (by omega) a;have h2:=tx hm;by_cases b:l.length<=m.length
  ·exact b
  ·have:B ^ m.length<=B ^ (l.length - 1):=Br (by omega) (by omega);omega
def val_inj{l m:List Nat}(hl:gZ B l)(hm:gZ B m)(hB:1<B)(h:val B l=val B m):l=m:=by
 have hlen:l.length=m.length:=Nat.le_antisymm (uC hl.2 hm.1 hB (by omega)) (uC hm.2 hl.1 hB (by omega));have:∀(l m:List Nat),l.length=m.length->Sm B l->Sm B m->val B l=val B m->l=m:=by
  intro l
  induction l with
  | nil=>intro m h _ _ _;cases m with | nil=>rfl | cons=>simp at h
  | cons a l ih=>
   intro m h h1 h2 hv;cases m with
   | nil=>simp at h
   | cons b m=>
    simp only[val]at hv;have c:=h1 a (by simp);have hb:=h2 b (by simp);have d:a=b:=by have:=congrArg (· % B) hv;simp only[Nat.add_mul_mod_self_left,zm c,zm hb]at this;exact this
    subst d;have e:val B l=val B m:=Nat.eq_of_mul_eq_mul_left (by omega) (Nat.add_left_cancel hv);rw[ih m (by simpa using h) h1.tail h2.tail e]
 exact this l m hlen hl.1 hm.1 h
def jc(a b:Nat):Int:=if a<b then -1 else if b<a then 1 else 0
def ahN{l m:List Nat}(hl:gZ B l)(hm:gZ B m)(hB:1<B)(b:l.length≠m.length):jc (val B l) (val B m)=jc l.length m.length:=by
 by_cases h:l.length<m.length
 ·have a:¬ val B m<=val B l:=λa=>by have:=uC hm.2 hl.1 hB a;omega
  simp[jc,h,show val B l<val B m by omega]
 ·have a:¬ val B l<=val B m:=λa=>by have:=uC hl.2 hm.1 hB a;omega
  simp[jc,h,show ¬ val B l<val B m by omega,show val B m<val B l by omega,show m.length<l.length by omega]
def ahO{l m:List Nat}(hl:Sm B l)(hm:Sm B m)(hlen:l.length=m.length){i:Nat}(hi:i<l.length)(c:l.drop (i+1)=m.drop (i+1))(n:l[i]≠m[i]'(by omega)):
 jc (val B l) (val B m)=jc l[i] (m[i]'(by omega)):=by
 have d:i<m.length:=by omega
 have a:=Kk (B:=B) l i;have b:=Kk (B:=B) m i;rw[Ah l hi,c]at a;rw[Ah m d]at b;have e:=tx (hl.take i);have f:=tx (hm.take i);have g:(l.take i).length=i:=by simp;omega
 have j:(m.take i).length=i:=by simp;omega
 rw[g]at a e;rw[j]at b f;generalize val B (List.drop (i+1) m)=X at*;by_cases h:l[i]<m[i]
 ·have:B ^ i*(l[i]+B*X+1)<=B ^ i*(m[i]+B*X):=sL _ (by omega);rw[iO _ _ 1]at this;simp[jc,h,show val B l<val B m by omega]
 ·have k:m[i]<l[i]:=by omega
  have:B ^ i*(m[i]+B*X+1)<=B ^ i*(l[i]+B*X):=sL _ (by omega);rw[iO _ _ 1]at this;simp[jc,h,k,show ¬ val B l<val B m by omega,show val B m<val B l by omega]
def ahP(a:Nat):jc a a=0:=by simp[jc]
def Aj{l:List Nat}(hl:Sm B l)(hB:0<B)(i:Nat):val B l / B ^ i=val B (l.drop i):=by
 by_cases hi:i<=l.length
 ·have e:=Kk (B:=B) l i;have t:=tx (hl.take i);have q:(l.take i).length=i:=by simp;omega
  rw[q]at e t;rw[e,Nat.add_mul_div_left _ _ (Nat.pow_pos hB),Nat.div_eq_of_lt t,eV]
 ·rw[qR (by omega),val];have h1:=tx hl;have:B ^ l.length<=B ^ i:=Br hB (by omega);exact Nat.div_eq_of_lt (by omega)
def wx(l:List Nat)(i:Nat):val B (l.drop i)=l.getD i 0+B*val B (l.drop (i+1)):=by
 by_cases hi:i<l.length
 ·rw[Ah l hi,dY,aX hi];rfl
 ·rw[qR (by omega),qR (by omega),dY,ml (by omega)];simp[val]
structure Dg(B R b head l2 top next P:Nat):Prop where
 hB:2<=B
 hR:R<B*b
 r1:(head*B+l2)*P<=R
 r2:R<(head*B+l2+1)*P
 b1:(top*B+next)*P<=b
 b2:b<(top*B+next+1)*P
 pU:l2<B
 qz:next<B
 kI:B<=2*top
 hP:0<P
def Dg.head{R b head l2 top next P:Nat}(d:Dg B R b head l2 top next P):head<B*(top+1):=by
 obtain⟨hB,hR,r1,r2,b1,b2,pU,qz,kI,hP⟩:=d;have h1:(top*B+next+1)*P<=(B*(top+1))*P:=gE _ (by rw[iO,eR top B];omega);have h2:B*b<B*((B*(top+1))*P):=Eu (by omega) (by omega);have e:(head*B)*P<=(head*B+l2)*P:=gE _ (by omega);have a:(head*B)*P<(B*(top+1)*B)*P:=by
  have:B*((B*(top+1))*P)=(B*(top+1)*B)*P:=by rw[←jT,eR B (B*(top+1))]
  omega
 have c:=Bs a;exact Bs c
def Dg.first{R b head l2 top next P:Nat}(d:Dg B R b head l2 top next P):R / b<=head / top/\head / top<=B+1:=by
 have c:=d.head;obtain⟨hB,hR,r1,r2,b1,b2,pU,qz,kI,hP⟩:=d;have ht:0<top:=by omega
 constructor
 ·rw[Nat.le_div_iff_mul_le ht];have h1:R / b*b<=R:=Nat.div_mul_le_self R b;have h2:R / b*(top*B*P)<=R / b*b:=sL _ (eF (gE _ (by omega)) b1);have e:(head*B+l2+1)*P<=((head+1)*B)*P:=gE _ (by rw[ie];omega);have a:(R / b*top*B)*P<((head+1)*B)*P:=by
   have:R / b*(top*B*P)=(R / b*top*B)*P:=by simp only[jT]
   omega
  have f:=Bs (Bs a);omega
 ·have:head / top<B+2:=by
   rw[Bt ht];have:B*(top+1)<=(B+2)*top:=by rw[iO,ie];omega
   omega
  omega
def Dg.down{R b head l2 top next P a left:Nat}(d:Dg B R b head l2 top next P)(f:a*top+left=head)(g:R / b<=a)(c:B<=a\/left*B+l2<a*next):R / b<=a - 1/\0<a:=by
 obtain⟨hB,hR,r1,r2,b1,b2,pU,qz,kI,hP⟩:=d;have hb:0<b:=by have:0<(top*B+next)*P:=Nat.mul_pos (by have:0<top*B:=Nat.mul_pos (by omega) (by omega);omega) hP;omega
 have e:R / b<a:=by
  cases c with
  | inl c=>
   have:R / b<B:=by rw[Bt hb];exact hR
   omega
  | inr c=>
   rw[Bt hb];have h1:a*((top*B+next)*P)<=a*b:=sL _ b1;have h2:(head*B+l2+1)*P<=(a*(top*B+next))*P:=by
    apply gE;have:a*(top*B+next)=a*top*B+a*next:=by rw[iO,jT]
    rw[this,←f,ie];omega
   rw[jT]at h2;omega
 exact⟨Nat.le_sub_one_of_lt e,Nat.lt_of_le_of_lt (oy _) e⟩
def Dg.done{R b head l2 top next P a left:Nat}(d:Dg B R b head l2 top next P)(c:a*top+left=head)(g:a<B)(h:a*next<=left*B+l2)(hp:P*B<=b):a*b<R+b:=by
 obtain⟨hB,hR,r1,r2,b1,b2,pU,qz,kI,hP⟩:=d;by_cases h0:a=0
 ·subst h0;have:0<P*B:=Nat.mul_pos hP (by omega);omega
 have h1:a*b<a*((top*B+next+1)*P):=Eu b2 (by omega);have h2:(a*(top*B+next))*P<=(head*B+l2)*P:=by
  apply gE;have:a*(top*B+next)=a*top*B+a*next:=by rw[iO,jT]
  rw[this,←c,ie];omega
 have e:a*((top*B+next+1)*P)=(a*(top*B+next))*P+a*P:=by rw[←jT,iO,kp,ie]
 have f:a*P<=B*P:=gE _ (by omega);rw[eR B P]at f;rw[e]at h1;omega
def Dg.brk{R b head l2 top next P a left:Nat}(d:Dg B R b head l2 top next P)(e:a*top+left=head)(hl:B<=left):a<B/\a*next<=left*B+l2:=by
 have c:=d.head;obtain⟨hB,hR,r1,r2,b1,b2,pU,qz,kI,hP⟩:=d;have h1:a*top<B*top:=by rw[iO]at c;omega
 have h2:=Bs h1;refine⟨h2,?_⟩;have f:a*next<=B*B:=zp (by omega) (by omega);have g:B*B<=left*B:=gE _ hl;omega
def ahQ{R b g:Nat}(hb:0<b)(h1:g*b<=R)(h2:R<g*b+b):R - g*b=R % b:=by
 have:R / b=g:=by
  rw[Nat.div_eq_iff hb];constructor
  ·omega
  ·omega
 have a:=zh R b;rw[this,eR]at a;omega
def SZ{x a b:Nat}(B:Nat):(x+B*(a % b)) % b=(x+B*a) % b:=by rw[Nat.add_mod,Nat.mul_mod,Nat.mod_mod,←Nat.mul_mod,←Nat.add_mod]
end
end
end Go.Ev.X
namespace Go.Ev.X
open Go Go.Ev
def lJ(c:UInt8):Bool:=decide (48<=c.toNat)&&decide (c.toNat<=57)
def body:S->S
 | []=>[]
 | c::l=>if c.toNat=45 then l else c::l
def isNeg:S->Bool
 | []=>false
 | c::_=>decide (c.toNat=45)
def qN:S->Nat
 | []=>0
 | c::_=>c.toNat
def qA(s:S):Bool:=
 !decide ((body s).length=0)&&(!decide (s=[45,48])&&(!(decide (1<(body s).length)&&decide (qN (body s)=48))&&(body s).all lJ))
def jt(s:S):Int:=if qA s then (if 120<(body s).length then 4 else 0) else 1
def FO{s:S}(h:qA s=true):(∀c∈body s,lJ c=true)/\body s≠[]:=by simp only[qA,aD,qd,gT,kX]at h;refine⟨h.2.2.2,λe=>h.1 ?_⟩;rw[e];rfl
def FP{s:S}(h:jt s=0):qA s=true/\(body s).length<=120:=by
 unfold jt at h;split at h
 ·rename_i hf;split at h
  ·omega
  ·exact⟨hf,by omega⟩
 ·omega
def Kl(s:S):(body s).length<=s.length/\s.length<=(body s).length+1:=by
 cases s with
 | nil=>simp[body]
 | cons c l=>simp only[body];split<;>simp
def qB(n:Nat)(s:S):Nat:=s.foldl (λn c=>10*n+(c.toNat - 48)) n
def dec(s:S):Nat:=qB 0 s
def ahR(s:S):∀n,qB n s=n*10 ^ s.length+dec s:=by
 induction s with
 | nil=>intro n;simp[qB,dec]
 | cons c l ih=>
  intro n;have a:=ih (10*n+(c.toNat - 48));have b:=ih (10*0+(c.toNat - 48));simp only[qB,dec,List.foldl_cons,eh]at*;rw[a,b,iM,ie,ou,eV,eR 10 n,jT,eR 10,mj]
def ahS(n:Nat)(s:S)(c:UInt8):qB n (s++[c])=10*qB n s+(c.toNat - 48):=by simp[qB]
def Km(a b:S):dec (a++b)=dec a*10 ^ b.length+dec b:=by
 have:dec (a++b)=qB (dec a) b:=by simp[dec,qB]
 rw[this,ahR]
def dec_lt{s:S}(h:∀c∈s,lJ c=true):dec s<10 ^ s.length:=by
 induction s with
 | nil=>simp[dec,qB]
 | cons c l ih=>
  have e:dec (c::l)=(c.toNat - 48)*10 ^ l.length+dec l:=by have:=Km [c] l;simpa[dec,qB]using this
  have h1:=ih λx a=>h x (by simp[a]);have h2:=h c (by simp);simp only[lJ,aD,cC]at h2;have b:(c.toNat - 48)*10 ^ l.length<=9*10 ^ l.length:=gE _ (by omega);rw[e,eh,iM];omega
def cutAt:S->Option (S×S)
 | []=>none
 | c::l=>if c.toNat=47 then some ([],l) else match cutAt l with
  | some (p,q)=>some (c::p,q)
  | none=>none
def oG(s:S):Bool:=s.any λc=>decide (c.toNat=47)
def uD(s:S):Option (S×S):=
 match cutAt s with
 | some (p,q)=>if oG q then none else some (p,q)
 | none=>none
def S0{s:S}(h:oG s=false):cutAt s=none:=by
 induction s with
 | nil=>rfl
 | cons c l ih=>
  simp only[oG,List.any_cons,xn,gT]at h;simp only[cutAt,h.1,if_false];rw[ih h.2]
def ahT:∀{s:S} {i:Nat} (hi:i<s.length),oG (s.take i)=false->s[i].toNat=47->cutAt s=some (s.take i,s.drop (i+1)):=by
 intro s
 induction s with
 | nil=>intro i hi;simp at hi
 | cons c l ih=>
  intro i hi h1 h2;cases i with
  | zero=>simp at h2;simp[cutAt,h2]
  | succ i=>
   simp only[j7,oG,List.any_cons,xn,gT]at h1;simp only[oV]at h2;simp only[cutAt,h1.1,if_false];rw[ih (by simpa using hi) h1.2 h2];simp
def ahU{s p q:S}(h:cutAt s=some (p,q)):p.length+q.length+1=s.length:=by
 induction s generalizing p q with
 | nil=>cases h
 | cons c l ih=>
  simp only[cutAt]at h;split at h
  ·cases h;simp
  ·split at h
   ·rename_i a b h';cases h;have:=ih h';simp;omega
   ·cases h
def rK(s:S):Int:=
 match uD s with
 | none=>1
 | some (p,q)=>if jt p≠0 then jt p else if jt q≠0 then jt q else
  if isNeg q=true\/dec (body q)=0\/Nat.gcd (dec (body p)) (dec (body q))≠1 then 1 else 0
def ahV{s:S}(h:qA s=true):dec (body s)=0↔s=[48]:=by
 constructor
 ·intro a;obtain⟨h1,h2⟩:=FO h;simp only[qA,aD,qd,gT,Bool.and_eq_false_imp,cC]at h;obtain⟨_,i,j,_⟩:=h;have key:∀b:S,b≠[]->(∀c∈b,lJ c=true)->(1<b.length->¬ qN b=48)->dec b=0->b=[48]:=by
   intro b hb f h1 a;cases b with
   | nil=>exact absurd rfl hb
   | cons c l=>
    have e:dec (c::l)=(c.toNat - 48)*10 ^ l.length+dec l:=by have:=Km [c] l;simpa[dec,qB]using this
    rw[e]at a;have hp:0<10 ^ l.length:=Nat.pow_pos (by omega);have k:=f c (by simp);simp only[lJ,aD,cC]at k;have g:c.toNat=48:=by
     by_cases h:c.toNat - 48=0
     ·omega
     ·have:1*10 ^ l.length<=(c.toNat - 48)*10 ^ l.length:=gE _ (by omega);omega
    cases l with
    | nil=>rw[show c=48 from UInt8.toNat_inj.1 g]
    | cons d l=>exact absurd g (h1 (by simp))
  have hb:=key (body s) h2 h1 j a;cases s with
  | nil=>cases hb
  | cons c l=>
   simp only[body]at hb;split at hb
   ·rename_i f;subst hb;have:c=45:=UInt8.toNat_inj.1 f;subst this;exact absurd rfl i
   ·exact hb
 ·rintro rfl;rfl
end Go.Ev.X
namespace Go.Ev.X
section
section
variable {B:Nat}
def Cy(x P:Nat)(hP:0<P):x / P*P<=x/\x<(x / P+1)*P:=by refine⟨Nat.div_mul_le_self x P,?_⟩;have:=zh x P;have h2:=oU x hP;rw[ie,Nat.one_mul,eR];omega
def ahW{b r:List Nat}{size:Nat}(hB:2<=B)(hb:Sm B b)(hl:b.length=size)(h2:2<=size)(kI:B<=2*b.getD (size - 1) 0)(a:Sm B r)(hR:val B r<B*val B b):
 Dg B (val B r) (val B b) (r.getD size 0*B+r.getD (size - 1) 0) (r.getD (size - 2) 0) (b.getD (size - 1) 0) (b.getD (size - 2) 0) (B ^ (size - 2)):=by
 have hP:0<B ^ (size - 2):=Nat.pow_pos (by omega);have d:size - 2+1=size - 1:=by omega
 have e:size - 1+1=size:=by omega
 have vb:val B b / B ^ (size - 2)=b.getD (size - 1) 0*B+b.getD (size - 2) 0:=by rw[Aj hb (by omega),wx,d,wx,e,qR (by omega)];simp only[val,ou,j6];rw[eR B,oW]
 have vr:val B r / B ^ (size - 2)=(r.getD size 0*B+r.getD (size - 1) 0)*B+r.getD (size - 2) 0:=by
  have h0:val B (r.drop (size+1))=0:=by rw[←Aj a (by omega)];apply Nat.div_eq_of_lt;have f:=tx hb;rw[hl]at f;have:B*val B b<B*B ^ size:=Eu f (by omega);rw[iM,eR (B ^ size)];omega
  rw[Aj a (by omega),wx,d,wx,e,wx,h0];simp only[ou,j6];generalize r.getD size 0=x;generalize r.getD (size - 1) 0=y;generalize r.getD (size - 2) 0=z;rw[eR B (y+B*x),eR B x,oW y,oW z]
 have s1:=Cy (val B r) _ hP;have c:=Cy (val B b) _ hP;rw[vr]at s1;rw[vb]at c;exact⟨hB,hR,s1.1,s1.2,c.1,c.2,a.getD (by omega) _,hb.getD (by omega) _,kI,hP⟩
def S1{b:List Nat}{size:Nat}(hB:2<=B)(hb:Sm B b)(hl:b.length=size)(h2:2<=size)(kI:0<b.getD (size - 1) 0):B ^ (size - 2)*B<=val B b:=by
 have hP:0<B ^ (size - 1):=Nat.pow_pos (by omega);have e:val B b / B ^ (size - 1)=b.getD (size - 1) 0:=by rw[Aj hb (by omega),wx,show size - 1+1=size by omega,qR (by omega)];simp[val]
 have s:=(Cy (val B b) _ hP).1;rw[e]at s;rw[←iM,show(size - 2).succ=size - 1 by omega];have:1*B ^ (size - 1)<=b.getD (size - 1) 0*B ^ (size - 1):=gE _ kI;omega
def ahX{b below:List Nat}{H s:Nat}(hB:B=2*H)(r:1<=H)(hb:gZ B b)(h1:1<=b.length)(hs:s=B / (b.getD (b.length - 1) 0+1))(c:gZ B below)(hv:val B below=val B b*s):
 below.length=b.length/\B<=2*below.getD (b.length - 1) 0/\1<=s/\s<B:=by
 have t:2<=B:=by omega
 have u:b.getD (b.length - 1) 0<B:=hb.1.getD (by omega) _;have g:b≠[]:=λe=>by rw[e]at h1;simp at h1
 have i:0<b.getD (b.length - 1) 0:=by have:=hb.2 g;rw[List.getLast_eq_getElem]at this;rw[dY,aX (by omega)];exact Bq this
 have hP:0<B ^ (b.length - 1):=Nat.pow_pos (by omega);have ev:val B b / B ^ (b.length - 1)=b.getD (b.length - 1) 0:=by rw[Aj hb.1 (by omega),wx,show b.length - 1+1=b.length by omega,qR (by omega)];simp[val]
 have sp:=Cy (val B b) _ hP;rw[ev]at sp;generalize w:b.getD (b.length - 1) 0=v at*;have s1:1<=s:=by rw[hs];exact(Nat.le_div_iff_mul_le (by omega)).2 (by omega)
 have sB:s*(v+1)<=B:=by rw[hs];exact Nat.div_mul_le_self _ _
 have z:B<(s+1)*(v+1):=by have:=(Cy B (v+1) (by omega)).2;rw[←hs]at this;exact this
 have j:s<B:=by have:s*2<=s*(v+1):=sL _ (by omega);omega
 have k:B*B ^ (b.length - 1)=B ^ b.length:=by rw[eR,←iM,show(b.length - 1).succ=b.length by omega]
 have d:val B below<B ^ b.length:=by
  rw[hv,←k];have A:val B b*s<(v+1)*B ^ (b.length - 1)*s:=Nat.mul_lt_mul_of_pos_right sp.2 (by omega);have C:(v+1)*B ^ (b.length - 1)*s=s*(v+1)*B ^ (b.length - 1):=by rw[eR _ s,jT]
  have D:s*(v+1)*B ^ (b.length - 1)<=B*B ^ (b.length - 1):=gE _ sB;omega
 have l:s*v*B ^ (b.length - 1)<=val B below:=by rw[hv,eR (val B b),jT];exact sL _ sp.1
 have m:1<=s*v:=Nat.mul_pos s1 i;have hlen:below.length=b.length:=by
  have l1:below.length<=b.length:=by
   by_cases f:below=[]
   ·rw[f];simp
   ·have:=FN (B:=B) c.2 (by omega) f;have:=(Nat.pow_lt_pow_iff_right (a:=B) (by omega)).1 (Nat.lt_of_le_of_lt this d);omega
  have l2:b.length - 1<below.length:=by have:=tx c.1;have n:1*B ^ (b.length - 1)<=s*v*B ^ (b.length - 1):=gE _ m;exact(Nat.pow_lt_pow_iff_right (a:=B) (by omega)).1 (by omega)
  omega
 refine⟨hlen,?_,s1,j⟩;have o:val B below / B ^ (b.length - 1)=below.getD (b.length - 1) 0:=by rw[Aj c.1 (by omega),wx,show b.length - 1+1=b.length by omega,qR (by omega)];simp[val]
 have ht:s*v<=below.getD (b.length - 1) 0:=by rw[←o];exact(Nat.le_div_iff_mul_le hP).2 l
 have E:H<=s*v:=by
  by_cases F:H<=v
  ·have:1*v<=s*v:=gE _ s1;omega
  ·rcases jA (s*v) H with d | h
   ·exfalso;have G:(s+1)*(v+1)=s*v+s+v+1:=by rw[iO,ie];omega
    have p:H+1 - v<=s:=by omega
    have n:(H+1 - v)*v<=s*v:=gE _ p;obtain⟨x,I⟩:∃x,H - v=x:=⟨_,rfl⟩;obtain⟨y,q⟩:∃y,v=y+1:=⟨v - 1,by omega⟩;have J:(H+1 - v)*v=x*y+x+y+1:=by rw[show H+1 - v=x+1 by omega,q,iO,ie];omega
    have:0<=x*y:=oy _;omega
   ·exact h
 omega
end
end
end Go.Ev.X
namespace Go.Ev.X
open Go Go.Ev
attribute [local irreducible] WC WO WD SO μ
section
variable {C:Nat->Option aE}{h:Hf}{n:K}{Q:V->Hf->K->Prop}
def nI{g:Nat}(d:C g=some (.go f37)){x:Bool}{e:Int}(c:Q (.i .i64 (if x then e else 0)) h n):μ C (.f g [] []) [.b x,.i .i64 e] h n Q:=by
 refine μ.go d rfl ?_;refine ε<|γ U<|δ ?_;refine φ<|ε<|γ U<|δ ?_;refine lA U (λa=>?_) (λa=>?_)
 ·refine ε<|γ U<|γ U<|δ (aj ⟨_,rfl,by subst a;exact c⟩)
 ·refine ay ?_;refine ε<|γ U<|δ (aj ⟨_,rfl,by subst a;exact c⟩)
def uE{g:Nat}(c:C g=some (.go f101)){op:Int}(a:Q (.b (decide (op=17\/op=18))) h n):μ C (.f g [] []) [.i .i64 op] h n Q:=by
 refine μ.go c rfl ?_;refine ε<|γ U<|δ ?_;by_cases h1:op=17
 ·refine ε<|γ U<|dD U U<|γ U<|θ U (by simp[h1])<|θ U (by simp[h1])<|bh U (by simp[h1]) U<|γ U<|δ (aj ⟨_,rfl,by simpa[h1]using a⟩)
 ·refine ε<|γ U<|dD U U<|γ U<|ζ U (by simp[h1])<|γ U<|ζ U (by simp[h1])<|dD U U<|aW U (by simp[h1]) U<|γ U<|δ (aj ⟨_,rfl,by simpa[h1]using a⟩)
def fm:List Int->Int
 | []=>0
 | a::l=>if a=0 then fm l else a
def ahZ{l:List Int}{i:Nat}(hi:i<l.length):fm (l.drop i)=if l[i]=0 then fm (l.drop (i+1)) else l[i]:=by rw[gL hi,fm]
def ah0{v:V}{l:List Int}{ik:IntKind}(hv:fh h n .i64 v l)(hlen:l.length<1000000):∀(m i:Nat),l.length - i=m->i<=l.length->(Q (.i .i64 (fm (l.drop i))) h n)->WC C ad8 [(k5,v),(k6,iN l.length),(k7,iN i),(k2,.i .i64 0)] h n (blk 0 (sq C ad9 (fq [.t k2] Q))):=by
 intro m
 induction m with
 | zero=>
  intro i hm hi a;refine aF ?_;refine ε<|aH U U<|δ ?_;refine φ<|az U (by simp;omega)<|bG ?_;have:i=l.length:=by omega
  subst this;refine ε<|γ U<|δ (aj ⟨_,rfl,by simpa[fm]using a⟩)
 | succ m ih=>
  intro i hm hi a;have c:i<l.length:=by omega
  refine aF ?_;refine ε<|aH U U<|δ ?_;refine φ<|ax U (by simp;omega)<|ay ?_;refine φ<|aA<|ε<|aV U U hv c<|ν U (hv.get c _)<|γ U<|δ ?_;refine ε<|γ U<|fJ U U<|δ ?_;rw[ahZ c]at a;refine lA U (λb=>?_) (λb=>?_)
  ·refine ε<|γ U<|γ U<|δ (aj ⟨_,rfl,by simp at b;rw[Γ b]at a;exact a⟩)
  ·refine ay ?_;simp at b;rw[ab b]at a;refine aP<|cj U U ⟨by omega,by omega⟩<|γ U<|δ ?_;exact au (ih (i+1) (by omega) (by omega) a) (Θ.rf U)
def A3{g:Nat}(a:C g=some (.go f36)){v:V}{l:List Int}(hv:fh h n .i64 v l)(hlen:l.length<1000000)(b:Q (.i .i64 (fm l)) h n):μ C (.f g [] []) [v] h n Q:=by refine μ.go a rfl ?_;refine ε<|γ U<|δ ?_;refine φ<|ε<|γ U<|aJ U hv<|γ U<|δ ?_;exact aA (au (ah0 (ik:=.i64) hv hlen _ 0 rfl (by omega) b) (Θ.rf U))
end
section
variable {C:Nat->Option aE}{h:Hf}{n:K}{Q:V->Hf->K->Prop}
def kJ(h:Hf)(n:K)(v:V)(ts:List Nd)(m:List (V×V)):Prop:=
 ∃hm:m.length=ts.length,κ h n 5 v ts.length (bJ ts m)/\∀i (hi:i<ts.length),dV h n (m[i]'(by omega)).1 ts[i].vars/\fh h n .i64 (m[i]'(by omega)).2 ts[i].kids
def kJ.ext{v:V}{ts:List Nd}{m:List (V×V)}{h':Hf}{n':K}(a:kJ h n v ts m)(e:Ext h n h' n'):kJ h' n' v ts m:=by obtain⟨hm,h1,h2⟩:=a;exact⟨hm,h1.ext e,λi hi=>⟨(h2 i hi).1.ext e,(h2 i hi).2.ext e⟩⟩
def kJ.row{v:V}{ts:List Nd}{m:List (V×V)}(a:kJ h n v ts m){i:Nat}(hi:i<ts.length):
 ∃vv kv,((bJ ts m).drop (i*5)).take 5=cB ts[i] vv kv/\dV h n vv ts[i].vars/\fh h n .i64 kv ts[i].kids:=by
 obtain⟨hm,h1,h2⟩:=a;exact⟨_,_,we hm hi,(h2 i hi).1,(h2 i hi).2⟩
def bK.get{v:V}{ts:List Nd}(a:bK h n v ts):∃m,kJ h n v ts m:=a
def A4(ts:List Nd)(m:List (V×V)):List (List V):=
 (List.range ts.length).map λi=>[.a (((bJ ts m).drop (i*5)).take 5++[iN i])]
def qC(ts:List Nd)(m:List (V×V)):(A4 ts m).length=ts.length:=by simp[A4]
def rL(ts:List Nd)(m:List (V×V)){i:Nat}(hi:i<(A4 ts m).length):(A4 ts m)[i]=[.a (((bJ ts m).drop (i*5)).take 5++[iN i])]:=by simp[A4]
def bS{cs l:List V}{sz:Nat}(h1:cs.length=sz)(h2:cs.length=l.length)(b:aB cs=true):lT l 0 0 sz (.a cs)=some cs:=by simp only[lT,V.cells,h1,b,cJ];rw[QM _ _ h2,dP];simp[Nat.ble]
def ah1{cs:List V}(hl:cs.length=5)(f:aB cs=true){E:Env}{k1 k2:K}{i:Int}(h1:lk E k1=some (.a cs))(h2:lk E k2=some (.i .i64 i)):
 iQ E [.i .i64 0,.s 0 0,.s 0 0,.ns,.ns,.i .i64 0] [(0,5,.t k1),(5,1,.t k2)]=some (cs++[.i .i64 i]):=by
 match cs,hl with
 | [a,b,c,d,e],_=>
  simp only[iQ,ge,h1,h2,V.cells,eh,mW,f,Nat.beq,iX,cond_true,cJ,over,aB,V.one];rfl
def ah2(q:Cd C){t:V}{ts:List Nd}{m:List (V×V)}{b:K}{e fz:Nat}(hlen:ts.length<1000000):
 Iter C (.f 99 [] [.p b 0]) (λh n=>b.num<n.num/\h b=some (.c [t] e fz)/\kJ h n t ts m) (A4 ts m):=by
 intro y I D h n s j hS h0;refine μ.go q.f99 U ?_;obtain⟨hb,k,hm,ht,_⟩:=j _ _ _ h0;refine ε<|ν U (cH k rfl _)<|aJ U ht<|γ U<|δ ?_;refine aA ?_;have key:∀(r i:Nat) (h:Hf) (n:K),ts.length - i=r->i<=ts.length->I i h n->WC C aet [(k0,y),(k5,t),(k6,iN ts.length),(k7,iN i)] h n (blk 0 (fq [] (λv h' n'=>I (A4 ts m).length h' n'\/D h' n'))):=by
  intro r
  induction r with
  | zero=>
   intro i h n u hi hI;have:i=ts.length:=by omega
   subst this;refine aF ?_;refine ε<|aH U U<|δ ?_;refine φ<|az U (by simp)<|bG ⟨_,rfl,?_⟩;rw[qC];exact Or.inl hI
  | succ r ih=>
   intro i h n u hi hI;have a:i<ts.length:=by omega
   obtain⟨hb,k,hm,ht,l⟩:=j _ _ _ hI;have o:aB (((bJ ts m).drop (i*5)).take 5)=true:=by rw[we hm a];have h1:=κ.one (l i a).1;have h2:=κ.one (l i a).2;simp only[cB,aB,h1,h2,Bool.and_true];rfl
   have d:(((bJ ts m).drop (i*5)).take 5).length=5:=by simp[pj hm];omega
   refine aF ?_;refine ε<|aH U U<|δ ?_;refine φ<|ax U (by simp;omega)<|ay ?_;refine φ<|aA<|ε<|γ U<|aV U U ht a<|ν U (ht.jG (by omega) (by omega))<|bN <| λh1 n1 G w x=>γ U<|aR U U w (bS d d o) <| λh2 z b2=>δ ?_;have A:Ext h n h2 n1:=x.Ξ b2 (ξ _);refine ε<|γ U<|ν U (bP z (kC d))<|γ U<|px (ah1 d o rfl rfl)<|ah U U ?_;have B:i<(A4 ts m).length:=by rw[qC];exact a
   have:=hS i B h2 n1 (s _ _ _ _ _ hI A);rw[rL]at this;refine μ.mono this ?_;rintro v E F (⟨rfl,g⟩ | ⟨rfl,g⟩)
   ·refine cz U<|δ<|az U U<|ay ?_;refine aP<|cj U U ⟨by omega,by omega⟩<|γ U<|δ ?_;exact au (ih (i+1) E F (by omega) (by omega) g) (Θ.rf U)
   ·refine cz U<|δ<|ax U U<|aj ⟨_,rfl,Or.inr g⟩
 exact au (key _ 0 h n rfl (by omega) h0) (Θ.rf U)
def Ko(a:Cd C){t:V}{ts:List Nd}{m:List (V×V)}(hm:kJ h n t ts m)(hlen:ts.length<1000000)
 (d:∀b e h' n',Ext h n h' n'->h' b=some (.c [t] e 0)->b.num<n'.num->n.num<=b.num->Iter C (.f 99 [] [.p b 0]) (λh n=>b.num<n.num/\h b=some (.c [t] e 0)/\kJ h n t ts m) (A4 ts m)->Q (.f 99 [] [.p b 0]) h' n'):μ C (.f 38 [] []) [t] h n Q:=by
 have h1:=hm.2.1.one;refine μ.go a.f38 U ?_;refine ε<|eL U hm.2.1.cells (by simp only[aB,h1];rfl) <| λh1 n1 j g i=>γ U<|δ ?_;refine ε<|rD U U<|γ U<|δ (aj ⟨_,rfl,d n 23 h1 n1 i g (by omega) (ξ _) (ah2 a hlen)⟩)
def uF(val:Nat->V)(len:Nat):List (List V):=(List.range len).map λi=>[.i .i64 ((len - 1 - i:Nat):Int),val (len - 1 - i)]
def nJ(val:Nat->V)(len:Nat):(uF val len).length=len:=by simp[uF]
def qD(val:Nat->V)(len:Nat){i:Nat}(hi:i<(uF val len).length):(uF val len)[i]=[.i .i64 ((len - 1 - i:Nat):Int),val (len - 1 - i)]:=by simp[uF]
def S2{g:Nat}(d:C g=some (.go f178)){t:V}{len:Nat}{cs:List V}{val:Nat->V}{b:K}{e fz:Nat}(hlen:len<1000000)(l:∀i,i<len->nth cs i=some (val i)):
 Iter C (.f g [] [.p b 0]) (λh n=>b.num<n.num/\h b=some (.c [t] e fz)/\κ h n 1 t len cs) (uF val len):=by
 intro y I D h n s k hS h0;refine μ.go d rfl ?_;obtain⟨hb,j,ht⟩:=k _ _ _ h0;refine ε<|ν U (cH j rfl _)<|aJ U ht<|pn U U ⟨by omega,by omega⟩<|γ U<|δ ?_;refine aA ?_;have key:∀(i:Nat) (h:Hf) (n:K),i<=len->I (len - i) h n->WC C aeD [(k0,y),(k1,.p b 0),(k3,.i .i64 ((i:Int) - 1))] h n (blk 0 (fq [] (λv h' n'=>I (uF val len).length h' n'\/D h' n'))):=by
  intro i
  induction i with
  | zero=>
   intro h n hi hI;refine aF ?_;refine φ<|ε<|γ U<|iC U U<|δ ?_;refine az U (by simp)<|bG ⟨_,rfl,?_⟩;rw[nJ];exact Or.inl hI
  | succ i ih=>
   intro h n hi hI;obtain⟨hb,j,ht⟩:=k _ _ _ hI;have m:((i+1:Nat):Int) - 1=(i:Int):=by omega
   rw[m];refine aF ?_;refine φ<|ε<|γ U<|iC U U<|δ ?_;refine ax U (by simp)<|ay ?_;have d:bc h false 1 (.p t.blk (t.off+i*1))=some (val i):=by rw[kp];exact ht.get (l i (by omega)) _
   refine φ<|aA<|ε<|γ U<|γ U<|ν U (cH j rfl _)<|γ U<|aV U U ht (by omega)<|ν U d<|ah U U ?_;have o:len - (i+1)<(uF val len).length:=by rw[nJ];omega
   have:=hS _ o h n hI;rw[qD,show len - 1 - (len - (i+1))=i by omega]at this;refine μ.mono this ?_;rintro v q r (⟨rfl,a⟩ | ⟨rfl,a⟩)
   ·refine cz U<|δ<|az U U<|ay ?_;refine aP<|γ U<|pn U U ⟨by omega,by omega⟩<|γ U<|δ ?_;rw[show len - (i+1)+1=len - i by omega]at a;exact au (ih q r (by omega) a) (Θ.rf U)
   ·refine cz U<|δ<|ax U U<|aj ⟨_,rfl,Or.inr a⟩
 exact au (key len h n (by omega) (by rw[kY];exact h0)) (Θ.rf U)
def ah3(a:Cd C){t:V}{ik:IntKind}{l:List Int}(ht:fh h n ik t l)(hlen:l.length<1000000)(val:Nat->V)(d:∀i (hi:i<l.length),val i=.i ik l[i])
 (g:∀b e h' n',Ext h n h' n'->h' b=some (.c [t] e 0)->b.num<n'.num->n.num<=b.num->Iter C (.f 178 [] [.p b 0]) (λh n=>b.num<n.num/\h b=some (.c [t] e 0)/\fh h n ik t l) (uF val l.length)->Q (.f 178 [] [.p b 0]) h' n'):μ C (.f 100 [] []) [t] h n Q:=by
 have h1:=κ.one ht;refine μ.go a.f100 U ?_;refine ε<|eL U (κ.cells ht) (by simp only[aB,h1];rfl) <| λh1 n1 m j k=>γ U<|δ ?_;refine ε<|rD U U<|γ U<|δ (aj ⟨_,rfl,g n 33 h1 n1 k j (by omega) (ξ _) (S2 a.f178 hlen (λi hi=>by rw[d i hi];exact Fh ik hi))⟩)
def ah4(a:Cd C){t:V}{ik:IntKind}{l:List Int}(ht:fh h n ik t l)(hlen:l.length<1000000)(val:Nat->V)(d:∀i (hi:i<l.length),val i=.i ik l[i])
 (g:∀b e h' n',Ext h n h' n'->h' b=some (.c [t] e 0)->b.num<n'.num->n.num<=b.num->Iter C (.f 314 [] [.p b 0]) (λh n=>b.num<n.num/\h b=some (.c [t] e 0)/\fh h n ik t l) (uF val l.length)->Q (.f 314 [] [.p b 0]) h' n'):μ C (.f 292 [] []) [t] h n Q:=by
 have h1:=κ.one ht;refine μ.go a.f292 U ?_;refine ε<|eL U (κ.cells ht) (by simp only[aB,h1];rfl) <| λh1 n1 m j k=>γ U<|δ ?_;refine ε<|rD U U<|γ U<|δ (aj ⟨_,rfl,g n 250 h1 n1 k j (by omega) (ξ _) (S2 a.f314 hlen (λi hi=>by rw[d i hi];exact Fh ik hi))⟩)
end
section
variable {C:Nat->Option aE}{h:Hf}{n:K}{Q:V->Hf->K->Prop}
def cS(f:Nat->Nat):List Int->Int->Bool
 | [],_=>true
 | k::l,next=>if k<0\/k≠next - 1 then false else cS f l (f k.toNat)
def bO(ts:List Nd)(i:Nat):List Int:=match ts[i]? with | some x=>x.kids | none=>[]
def Ak(ts:List Nd)(l:List Nat)(i:Nat):Nat:=
 match bO ts i with
 | []=>i
 | k::ks=>if cS (λj=>l.getD j 0) (k::ks).reverse i then l.getD k.toNat 0 else i
def fl(ts:List Nd):Nat->List Nat
 | 0=>[]
 | i+1=>fl ts i++[Ak ts (fl ts i) i]
def fs(ts:List Nd)(i:Nat):Nat:=(fl ts (i+1)).getD i 0
def ye(ts:List Nd)(m:Nat):(fl ts m).length=m:=by induction m<;>simp_all [fl]
def S3(ts:List Nd){i:Nat}:∀{m:Nat},i<m->(fl ts m).getD i 0=fs ts i:=by
 intro m
 induction m with
 | zero=>intro h;omega
 | succ m ih=>
  intro h;by_cases hm:i<m
  ·rw[←ih hm,fl];simp[dY,oT (show i<(fl ts m).length by rw[ye];exact hm)]
  ·have:i=m:=by omega
   subst this;rfl
def ah5{f g:Nat->Nat}:∀{l:List Int} {next:Int},(∀j:Nat,(j:Int)<next->f j=g j/\(f j:Int)<=j)->cS f l next=cS g l next:=by
 intro l
 induction l with
 | nil=>intro next _;rfl
 | cons k l ih=>
  intro next h;simp only[cS];by_cases a:k<0\/k≠next - 1
  ·simp[a]
  ·simp only[a,if_false];have h1:=h k.toNat (by omega);rw[←h1.1];exact ih (λj hj=>h j (by omega))
def S4(ts:List Nd):∀{m i:Nat},(fl ts m).getD i 0<=i:=by
 intro m
 induction m with
 | zero=>intro i;simp[fl]
 | succ m ih=>
  intro i;by_cases hm:i<m
  ·rw[fl,dY,oT (by rw[ye];exact hm),←dY];exact ih
  ·by_cases hi:i=m
   ·subst hi;have:(fl ts (i+1)).getD i 0=Ak ts (fl ts i) i:=by
     rw[fl,dY,qc (by rw[ye];exact ξ _),ye];simp
    rw[this];unfold Ak;split
    ·exact ξ _
    ·rename_i k ks e;split
     ·rename_i b;have key:∀(l:List Int) (next:Int),cS (λj=>(fl ts i).getD j 0) l next=true->∀k∈l,k<next/\0<=k:=by
       intro l
       induction l with
       | nil=>intro next _ k c;cases c
       | cons a l d=>
        intro next b k c;simp only[cS]at b;split at b
        ·cases b
        ·rename_i f;cases c with
         | head=>omega
         | tail _ c=>
          have:=d _ b k c;have h2:((fl ts i).getD a.toNat 0)<=a.toNat:=ih;omega
      have:=key _ _ b k (by simp);have h2:((fl ts i).getD k.toNat 0)<=k.toNat:=ih;omega
     ·exact ξ _
   ·rw[dY,ml (by rw[ye];omega)];simp
def fw(ts:List Nd)(i:Nat):fs ts i<=i:=S4 ts
def ord(ts:List Nd)(i:Nat):Bool:=cS (fs ts) (bO ts i).reverse i
def ah6(ts:List Nd)(i:Nat){m:Nat}(hm:i<=m):cS (λj=>(fl ts m).getD j 0) (bO ts i).reverse i=ord ts i:=
 ah5 λj hj=>⟨S3 ts (by omega),by have:=S4 ts (m:=m) (i:=j);omega⟩
def Kr(ts:List Nd)(i:Nat):fs ts i=match bO ts i with | []=>i | k::_=>if ord ts i then fs ts k.toNat else i:=by
 have h1:fs ts i=Ak ts (fl ts i) i:=by unfold fs;rw[fl,dY,qc (by rw[ye];exact ξ _),ye];simp
 rw[h1];unfold Ak;split
 ·rfl
 ·rename_i k ks b;have:=ah6 ts i (ξ i);rw[b]at this;rw[this];by_cases c:ord ts i=true
  ·simp only[c,if_true];have d:k.toNat<i:=by
    have key:∀(l:List Int) (next:Int),cS (fs ts) l next=true->∀k∈l,k<next/\0<=k:=by
     intro l
     induction l with
     | nil=>intro next _ k b;cases b
     | cons a l e=>
      intro next c k b;simp only[cS]at c;split at c
      ·cases c
      ·rename_i f;cases b with
       | head=>omega
       | tail _ b=>have:=e _ c k b;have:=fw ts a.toNat;omega
    have:=key _ _ c k (by rw[b];simp);omega
   exact S3 ts d
  ·simp only[c];rfl
def S5(ts:List Nd):∀(l:List Int) (next:Int),cS (fs ts) l next=true->∀k∈l,k<next/\0<=k:=by
 intro l
 induction l with
 | nil=>intro next _ k b;cases b
 | cons a l d=>
  intro next c k b;simp only[cS]at c;split at c
  ·cases c
  ·rename_i e;cases b with
   | head=>omega
   | tail _ b=>have:=d _ c k b;have:=fw ts a.toNat;omega
def jL{ts:List Nd}{i:Nat}(a:ord ts i=true):∀k∈bO ts i,k<i/\0<=k:=λk b=>S5 ts _ _ a k (by simpa using b)
def jW{ts:List Nd}{i:Nat}(hi:i<ts.length):bO ts i=ts[i].kids:=by simp[bO,hi]
def ah7{t:V}{ts:List Nd}(ht:bK h n t ts)(hlen:ts.length<1000000):∀(r i:Nat),i<=r->i<ts.length->(∀j,j<=i->ord ts j=true)->Q (.i .i64 (fs ts i:Nat)) h n->WC C aeg [(k0,t),(k1,iN i)] h n (blk 0 (sq C aeh (fq [.t k4] Q))):=by
 intro r
 induction r with
 | zero=>
  intro i g hi d a;have:i=0:=by omega
  subst this;obtain⟨cs,hs⟩:=ht.sl;obtain⟨vv,kv,b⟩:=ht.node hi;have c:ts[0].kids=[]:=by
   have:=jL (d 0 (ξ 0));rw[jW hi]at this;cases c:ts[0].kids with
   | nil=>rfl
   | cons k ks=>have:=this k (by rw[c];simp);omega
  have hf:fs ts 0=0:=by have:=fw ts 0;omega
  refine aF ?_;refine φ<|ε<|γ U<|γ U<|aV U U hs hi<|χ U<|ν U (b.ks _)<|aJ U b.kids<|dH U U<|δ ?_;refine az U (by simp[c])<|bG ?_;refine ε<|γ U<|γ U<|δ (aj ⟨_,rfl,by rw[hf]at a;exact a⟩)
 | succ r ih=>
  intro i g hi d a;obtain⟨cs,hs⟩:=ht.sl;obtain⟨vv,kv,b⟩:=ht.node hi;refine aF ?_;refine φ<|ε<|γ U<|γ U<|aV U U hs hi<|χ U<|ν U (b.ks _)<|aJ U b.kids<|dH U U<|δ ?_;rw[Kr,jW hi,d i (ξ i)]at a;have e:=jL (d i (ξ i));rw[jW hi]at e;cases c:ts[i].kids with
  | nil=>
   rw[c]at a;refine az U (by simp)<|bG ?_;refine ε<|γ U<|γ U<|δ (aj ⟨_,rfl,a⟩)
  | cons k ks=>
   rw[c]at a e;have m:=e k (by simp);have h0:0<ts[i].kids.length:=by rw[c];simp
   have f:=b.kids.get h0 1;simp only[c,zf]at f;refine ax U (by simp)<|ay ?_;have l:k=((k.toNat:Nat):Int):=by omega
   refine aA<|aP<|γ U<|γ U<|aV U U hs hi<|χ U<|ν U (b.ks _)<|aV U U b.kids h0<|ν U f<|γ U<|δ ?_;rw[l];exact au (ih k.toNat (by omega) (by omega) (λj hj=>d j (by omega)) (by simpa using a)) (Θ.rf U)
def Yx{g:Nat}(a:C g=some (.go f44)){t:V}{ts:List Nd}{i:Nat}(ht:bK h n t ts)(hlen:ts.length<1000000)(hi:i<ts.length)(b:∀j,j<=i->ord ts j=true)(c:Q (.i .i64 (fs ts i:Nat)) h n):
 μ C (.f g [] []) [t,iN i] h n Q:=by
 refine μ.go a rfl ?_;refine ε<|γ U<|δ ?_;exact φ<|aA<|au (ah7 ht hlen i i (ξ i) hi b c) (Θ.rf U)
end
section
variable {C:Nat->Option aE}{h:Hf}{n:K}{Q:V->Hf->K->Prop}
def Cl(h:Hf)(n:K)(b:K)(l:List V)(e:Nat):Prop:=b.num<n.num/\h b=some (.c l e 0)
def Cl.ext{h h':Hf}{n n' b:K}{l:List V}{e:Nat}(a:Cl h n b l e)(x:Ext h n h' n'):Cl h' n' b l e:=⟨eE a.1 x.1,by rw[x.2 _ a.1];exact a.2⟩
def Cl.Ξ{h h':Hf}{n b k:K}{l:List V}{e:Nat}(a:Cl h n b l e)(x:bA k h h')(c:b.num≠k.num):Cl h' n b l e:=⟨a.1,by rw[x _ c];exact a.2⟩
def Cl.up{h:Hf}{n n' b:K}{l:List V}{e:Nat}(a:Cl h n b l e)(c:n.num<=n'.num):Cl h n' b l e:=⟨eE a.1 c,a.2⟩
def Cl.ld{h:Hf}{n b:K}{l:List V}{e:Nat}(a:Cl h n b l e){o:Nat}{v:V}(hv:nth l o=some v)(sz:Nat):bc h false sz (.p b o)=some v:=cH a.2 hv sz
def ah8{f:Nat->Nat}{l:List Int}{j:Nat}{next:Int}(hj:j<l.length):cS f (l.drop j) next=if l[j]<0\/l[j]≠next - 1 then false else cS f (l.drop (j+1)) (f l[j].toNat):=by rw[gL hj,cS]
def S6(x:Nd){vv kv:V}(hv:vv.one=true)(a:kv.one=true){k:IntKind}{i:Int}:aB (cB x vv kv++[.i k i])=true:=by simp only[cB,j8,List.nil_append,aB,hv,a,Bool.and_true];rfl
def w39(F:Cd C){t:V}{ts:List Nd}{i:Nat}{vv kv:V}(ht:bK h n t ts)(hlen:ts.length<1000000)(hi:i<ts.length)(u:fh h n .i64 kv ts[i].kids)(T:ts[i].kids.length<1000000)(hv:vv.one=true)(W:∀j,j<i->ord ts j=true)
 (O:∀h' n',Ext h n h' n'->Q (.b (ord ts i)) h' n'):μ C (.f 39 [] []) [t,.a (cB ts[i] vv kv++[iN i])] h n Q:=by
 have X:=ht.sl.choose_spec.one;have Y:=κ.one u;refine μ.go F.f39 U ?_;refine ε<|eL U ht.sl.choose_spec.cells (by simp only[aB,X];rfl) <| λh1 n1 dd Z e1=>eL U U (S6 _ hv Y) <| λh2 G iw a2 P=>bN <| λh3 H kh a3 J=>δ ?_;have c2:Cl h3 H n1 (cB ts[i] vv kv++[iN i]) 95:=Cl.ext ⟨by omega,a2⟩ J;refine ε<|χ U<|ν U (c2.ld U _)<|bN <| λh4 v mQ a4 z=>aR U U a4 U <| λw a5 b5=>δ ?_;have r:Ext h n w v:=(((e1.trans P).trans J).trans z).Ξ b5 (by omega);have c1:Cl w v n [t] 23:=(((Cl.ext ⟨by omega,Z⟩ P).ext J).ext z).Ξ b5 (by omega);have c2:Cl w v n1 (cB ts[i] vv kv++[iN i]) 95:=(c2.ext z).Ξ b5 (by omega);have c3:Cl w v G [.b false] 4:=(Cl.ext ⟨by omega,a3⟩ z).Ξ b5 (by omega);have c4:Cl w v H [iN i] 3:=⟨by omega,a5⟩;refine φ<|ε<|χ U<|χ U<|ν U (c2.ld U _)<|ah U U<|ah3 F (u.ext r) T (λj=>.i .i64 (ts[i].kids.getD j 0)) (λj hj=>by simp[dY,hj]) ?_;intro b e h6 A m a6 pg gH it;refine δ ?_;let I:Nat->Hf->K->Prop:=λj h' n'=>Ext h n h' n'/\(b.num<n'.num/\h' b=some (.c [kv] e 0)/\fh h' n' .i64 kv ts[i].kids)/\Cl h' n' n [t] 23/\Cl h' n' G [.b false] 4/\∃next:Nat,Cl h' n' H [iN next] 3/\next<=i/\cS (fs ts) (ts[i].kids.reverse.drop j) next=ord ts i;let D:Ex->Hf->K->Prop:=λex h' n'=>ex=.ret/\Ext h n h' n'/\Cl h' n' G [.b false] 4/\ord ts i=false;refine aA<|tj U it I D ?_ ?_ ?_ ?_ ?_ ?_ ?_ ?_
 ·rintro j h1 n1 h' n' ⟨g1,⟨k,o,B⟩,p,l,next,s,x,g⟩ ex;exact⟨g1.trans ex,⟨eE k ex.1,by rw[ex.2 _ k];exact o,B.ext ex⟩,p.ext ex,l.ext ex,next,s.ext ex,x,g⟩
 ·rintro j h1 n1 h' ⟨g1,⟨k,o,B⟩,p,l,next,s,x,g⟩ d;have:=r.1;have:=m.1;have R:=g1.Ξ d (by omega);exact⟨R,⟨k,by rw[d _ (by omega)];exact o,u.ext R⟩,p.Ξ d (by omega),l.Ξ d (by omega),next,s.Ξ d (by omega),x,g⟩
 ·rintro j h1 n1 ⟨g1,k,_⟩;exact k
 ·intro j hj;rw[qD];rfl
 ·intro h' d;have:=r.1;have:=m.1;have hs:A.succ.num=A.num+1:=K.eI A;have g1:Ext h n h' A.succ:=((r.trans m).Ξ d (by omega)).succ;refine⟨g1,⟨by omega,by rw[d _ (by omega)];exact a6,u.ext g1⟩,((c1.ext m).Ξ d (by omega)).up (by omega),((c3.ext m).Ξ d (by omega)).up (by omega),i,((c4.ext m).Ξ d (by omega)).up (by omega),ξ i,?_⟩;rw[ord,jW hi];rfl
 ·rintro j hj h1 m1 E1 y ⟨g1,⟨k,o,B⟩,p,l,next,s,x,g⟩ L;have bR:j<ts[i].kids.length:=by rw[nJ]at hj;exact hj
  rw[qD]at L;simp only[jF,kV]at L;subst L;have hjr:j<ts[i].kids.reverse.length:=by simpa using bR
  have nK:ts[i].kids.getD (ts[i].kids.length - 1 - j) 0=ts[i].kids.reverse[j]:=by
   have hx:ts[i].kids.length - 1 - j<ts[i].kids.length:=by omega
   rw[List.getElem_reverse,dY,aX hx];rfl
  rw[nK];generalize G2:ts[i].kids.reverse[j]=E at*;rw[ah8 hjr,G2]at g;refine aP<|γ U<|δ ⟨rfl,rfl,λh2 d=>?_⟩;have:=r.1;have:=m.1;have c7:=s.Ξ d (by omega);refine aA<|φ ?_;by_cases h0:E<0
  ·refine ε<|γ U<|aH U U<|γ U<|θ U (by simp[h0])<|θ U (by simp[h0])<|θ U (by simp[h0])<|θ U (by simp[h0])<|bh U (by simp[h0]) U<|δ ?_;refine ax U U ?_;rw[ab (Or.inl h0)]at g;have c6:=l.Ξ d (by omega);refine ε<|aR U U c6.2 U <| λM q b7=>δ ?_;refine aj ⟨y,b7 _ (by omega),rfl,(g1.Ξ d (by omega)).Ξ b7 (by omega),⟨by have:=c6.1;omega,q⟩,g.symm⟩
  ·by_cases N:E=(next:Int) - 1
   ·rw[Γ (by omega)]at g;obtain⟨k',rfl⟩:∃k':Nat,E=(k':Int):=⟨E.toNat,by omega⟩;refine ε<|γ U<|aH U U<|γ U<|ζ U (by simp<;>omega)<|γ U<|ζ U (by simp<;>omega)<|ν U (c7.ld U _)<|ζ U (by simp<;>omega)<|pn U U ⟨by omega,by omega⟩<|ζ U (by simp<;>omega)<|fJ U U<|aW U (by simp<;>omega) U<|δ ?_;refine az U (by simp[N])<|ay ?_;refine aP<|ν U ((p.Ξ d (by omega)).ld U _)<|γ U<|ah U U<|Yx F.f44 (ht.ext (g1.Ξ d (by omega))) hlen (by omega) (λj hj=>W j (by omega))<|aR U U c7.2 U <| λM q b7=>δ ?_;have:=p.1;have:=l.1;have:=fw ts k';have S:=(g1.Ξ d (by omega)).Ξ b7 (by omega);exact⟨y,b7 _ (by omega),S,⟨k,by rw[b7 _ (by omega),d _ (by omega)];exact o,u.ext S⟩,(p.Ξ d (by omega)).Ξ b7 (by omega),(l.Ξ d (by omega)).Ξ b7 (by omega),fs ts k',⟨c7.1,q⟩,by omega,by simpa using g⟩
   ·refine ε<|γ U<|aH U U<|γ U<|ζ U (by simp[h0])<|γ U<|ζ U (by simp[h0])<|ν U (c7.ld U _)<|ζ U (by simp[h0])<|pn U U ⟨by omega,by omega⟩<|ζ U (by simp[h0])<|fJ U U<|aW U (by simp[h0]) U<|δ ?_;refine ax U (by simp[N]) ?_;rw[ab (Or.inr N)]at g;have c6:=l.Ξ d (by omega);refine ε<|aR U U c6.2 U <| λM q b7=>δ ?_;refine aj ⟨y,b7 _ (by omega),rfl,(g1.Ξ d (by omega)).Ξ b7 (by omega),⟨by have:=c6.1;omega,q⟩,g.symm⟩
 ·rintro h' n' y ⟨g1,⟨k,o,B⟩,p,l,next,s,x,g⟩;rw[nJ,qR (by simp),cS]at g;refine ε<|aR U U l.2 U <| λM q b7=>δ ?_;refine aj ⟨_,jI rfl (cH q rfl _),?_⟩;rw[g];exact O _ _ (g1.Ξ b7 (by omega))
 ·rintro ex h' n' h2 y ⟨rfl,g1,k,o⟩ d;have:=r.1;have:=m.1;have c2:=k.Ξ d (by omega);refine⟨_,jI rfl (c2.ld U _),?_⟩;rw[←o];exact O _ _ (g1.Ξ d (by omega))
end
section
variable {C:Nat->Option aE}{h:Hf}{n:K}{Q:V->Hf->K->Prop}
def dZ(ts:List Nd)(i:Nat):Int:=match ts[i]? with | some x=>x.op | none=>0
def S7{ts:List Nd}{i:Nat}(hi:i<ts.length):dZ ts i=ts[i].op:=by simp[dZ,hi]
def lK(ts:List Nd)(op:Int)(len:Nat):List Int->Nat->Bool
 | [],_=>false
 | k::l,j=>(if op=17\/op=18 then decide (dZ ts k.toNat=19)==decide ((j:Int)=len - 1) else decide (dZ ts k.toNat=19))||lK ts op len l (j+1)
def kQ(x:Nd)(vv kv:V)(i:Nat):List V:=[.i .i64 x.op,st x.sort,st x.name,vv,kv,iN i]
def Cz(x:Nd)(vv kv:V)(i:Nat):cB x vv kv++[iN i]=kQ x vv kv i:=rfl
def uG(x:Nd){vv kv:V}(hv:vv.one=true)(a:kv.one=true){i:Nat}:aB (kQ x vv kv i)=true:=S6 x hv a
def ah9(d:Cd C){t:V}{ts:List Nd}{x:Nd}{vv kv:V}{i:Nat}{b:K}(ht:bK h n t ts)(hlen:ts.length<1000000)(e:fh h n .i64 kv x.kids)(w:x.kids.length<1000000)(o:∀k∈x.kids,0<=k/\k<ts.length)(hb:Cl h n b (kQ x vv kv i) 95):
 ∀(r j:Nat),x.kids.length - j=r->j<=x.kids.length->Q (.i .i64 (if lK ts x.op x.kids.length (x.kids.drop j) j then 11 else 0)) h n->WC C aea [(k0,t),(k3,.p b 0),(oK,kv),(sx,iN x.kids.length),(lW,iN j)] h n (blk 0 (sq C aeb (fq [.t k4] Q))):=by
 intro r
 induction r with
 | zero=>
  intro j hj q c;have:j=x.kids.length:=by omega
  subst this;refine aF ?_;refine ε<|aH U U<|δ ?_;refine φ<|az U (by simp)<|bG ?_;refine ε<|γ U<|δ (aj ⟨_,rfl,by simpa[lK]using c⟩)
 | succ r ih=>
  intro j hj q c;have f:j<x.kids.length:=by omega
  have s:=o x.kids[j] (bL _);rw[gL f,lK]at c;obtain⟨k',u⟩:∃k':Nat,x.kids[j]=(k':Int):=⟨x.kids[j].toNat,by omega⟩;have m:=e.get f 1;rw[u]at s c m;have g:k'<ts.length:=by omega
  obtain⟨y,z,v⟩:=ht.node g;obtain⟨cs,hs⟩:=ht.sl;rw[show((k':Int)).toNat=k' from rfl,S7 g]at c;refine aF ?_;refine ε<|aH U U<|δ ?_;refine φ<|ax U (by simp;omega)<|ay ?_;refine φ<|aA<|ε<|γ U<|aV U U e f<|ν U m<|γ U<|γ U<|δ ?_;refine ε<|γ U<|γ U<|aV U U hs g<|χ U<|ν U (v.op _)<|dD U U<|γ U<|δ ?_;have next:lK ts x.op x.kids.length (x.kids.drop (j+1)) (j+1)=lK ts x.op x.kids.length (x.kids.drop j) j->True:=λ_=>trivial;by_cases a:x.op=17\/x.op=18
  ·rw[ab a]at c;cases he:(decide (ts[k'].op=19)==decide ((j:Int)=(x.kids.length:Int) - 1):Bool) with
   | true=>
    rw[he]at c;refine ε<|χ U<|χ U<|ν U (hb.ld U _)<|ah U U<|uE d.f101<|γ U<|ζ U (by simp[a])<|γ U<|ζ U (by simp[a])<|γ U<|ζ U (by simp[a])<|χ U<|ζ U (by simp[a])<|χ U<|ζ U (by simp[a])<|ν U (hb.ld U _)<|ζ U (by simp[a])<|aJ U e<|ζ U (by simp[a])<|pn U U ⟨by omega,by omega⟩<|ζ U (by simp[a])<|dD U U<|ζ U (by simp[a])<|Q2 U U<|bh U (by simp[a]) U<|γ U<|θ U (by exact he)<|θ U (by exact he)<|θ U (by exact he)<|θ U (by exact he)<|θ U (by exact he)<|θ U (by exact he)<|fI U<|θ U (by exact he)<|bh U (by exact he) U<|δ ?_;refine ax U U ?_;refine ε<|γ U<|δ (aj ⟨_,rfl,by simpa using c⟩)
   | false=>
    rw[he]at c;refine ε<|χ U<|χ U<|ν U (hb.ld U _)<|ah U U<|uE d.f101<|γ U<|ζ U (by simp[a])<|γ U<|ζ U (by simp[a])<|γ U<|ζ U (by simp[a])<|χ U<|ζ U (by simp[a])<|χ U<|ζ U (by simp[a])<|ν U (hb.ld U _)<|ζ U (by simp[a])<|aJ U e<|ζ U (by simp[a])<|pn U U ⟨by omega,by omega⟩<|ζ U (by simp[a])<|dD U U<|ζ U (by simp[a])<|Q2 U U<|bh U (by simp[a]) U<|γ U<|ζ U (by exact he)<|χ U<|ζ U (by exact he)<|χ U<|ζ U (by exact he)<|ν U (hb.ld U _)<|ζ U (by exact he)<|ah U U<|uE d.f101<|ζ U (by exact he)<|cz U<|ζ U (by exact he)<|γ U<|θ U (by simp[a])<|ζ U (by exact he)<|aW U (by simp[a]) U<|aW U (by exact he) U<|δ ?_;refine az U (by simp[a])<|ay ?_;refine aP<|cj U U ⟨by omega,by omega⟩<|γ U<|δ ?_;exact au (ih (j+1) (by omega) (by omega) (by simpa using c)) (Θ.rf U)
  ·rw[Γ a]at c;refine ε<|χ U<|χ U<|ν U (hb.ld U _)<|ah U U<|uE d.f101<|γ U<|θ U (by simp[a])<|θ U (by simp[a])<|θ U (by simp[a])<|θ U (by simp[a])<|θ U (by simp[a])<|θ U (by simp[a])<|θ U (by simp[a])<|θ U (by simp[a])<|θ U (by simp[a])<|aW U (by simp[a]) U<|γ U<|ζ U U<|χ U<|ζ U U<|χ U<|ζ U U<|ν U (hb.ld U _)<|ζ U U<|ah U U<|uE d.f101<|ζ U U<|cz U<|ζ U U<|γ U<|ζ U (by simp[a])<|γ U<|ζ U U<|bh U (by simp[a]) U<|aW U U U<|δ ?_;refine lA U (λl=>?_) (λl=>ay ?_)
   ·rw[l]at c;refine ε<|γ U<|δ (aj ⟨_,rfl,by simpa using c⟩)
   ·rw[l]at c;refine aP<|cj U U ⟨by omega,by omega⟩<|γ U<|δ ?_;exact au (ih (j+1) (by omega) (by omega) (by simpa using c)) (Θ.rf U)
def w40(d:Cd C){t:V}{ts:List Nd}{x:Nd}{vv kv:V}{i:Nat}(ht:bK h n t ts)(hlen:ts.length<1000000)(hv:vv.one=true)(b:fh h n .i64 kv x.kids)(e:x.kids.length<1000000)(g:∀k∈x.kids,0<=k/\k<ts.length)
 (j:∀h' n',Ext h n h' n'->Q (.i .i64 (if lK ts x.op x.kids.length x.kids 0 then 11 else 0)) h' n'):μ C (.f 40 [] []) [t,.a (kQ x vv kv i)] h n Q:=by
 refine μ.go d.f40 U ?_;refine ε<|eL U U (uG x hv (κ.one b)) <| λh1 n1 m l c=>γ U<|δ ?_;have c1:Cl h1 n1 n (kQ x vv kv i) 95:=⟨by omega,l⟩;refine φ<|ε<|χ U<|χ U<|ν U (c1.ld U _)<|aJ U b<|γ U<|δ ?_;exact aA<|au (ah9 d (ht.ext c) hlen (b.ext c) e g c1 _ 0 rfl (by omega) (j _ _ c)) (Θ.rf U)
end
section
variable {C:Nat->Option aE}{h:Hf}{n:K}{Q:V->Hf->K->Prop}
def aia(d:Cd C){p:S×S}{name:S}{b:K}(hb:Cl h n b [st name] 9)(e:∀h' n',Ext h n h' n'->Q (.b (decide (p.1=name))) h' n'):μ C (.f 188 [] [.p b 0]) [.a [st p.1,st p.2]] h n Q:=by refine μ.go d.f188 U ?_;refine ε<|eL U U U <| λh1 n1 i g c=>γ U<|δ ?_;refine ε<|χ U<|ν U (cH g rfl _)<|ν U ((hb.ext c).ld U _)<|iS U U<|γ U<|δ (aj ⟨_,rfl,e _ _ c⟩)
def uH(name:S):List (S×S)->Nat->Int
 | [],_=>-1
 | p::l,i=>if p.1=name then (i:Int) else uH name l (i+1)
def aib(name:S):∀(l:List (S×S)) (i:Nat),0<=uH name l i↔name∈l.map Prod.fst:=by
 intro l
 induction l with
 | nil=>intro i;simp[uH]
 | cons p l ih=>
  intro i;simp only[uH];by_cases h:p.1=name
  ·simp[h]
  ·rw[Γ h,ih];simp only[eY,cD];have:name≠p.1:=λe=>h e.symm;simp[this]
def aic(name:S)(l:List (S×S))(i:Nat):decide (0<=uH name l i)=decide (name∈l.map Prod.fst):=decide_eq_decide.2 (aib name l i)
def aid(k:Cd C){v:V}{l:List (S×S)}{name:S}{b:K}(hlen:l.length<1000000):∀(r j:Nat) (h:Hf) (n:K),dV h n v l->Cl h n b [st name] 9->l.length - j=r->j<=l.length->(∀h' n',Ext h n h' n'->Q (.i .i64 (uH name (l.drop j) j)) h' n')->WC C aeV [(k0,v),(k1,.f 188 [] [.p b 0]),(k7,iN l.length),(k8,iN j)] h n (blk 0 (sq C aeW (fq [.t k4] Q))):=by
 intro r
 induction r with
 | zero=>
  intro j h n hv hb hj m a;have:j=l.length:=by omega
  subst this;refine aF ?_;refine ε<|aH U U<|δ ?_;refine φ<|az U (by simp)<|bG ?_;refine ε<|γ U<|δ (aj ⟨_,rfl,by simpa[uH]using a _ _ (Ext.refl h n)⟩)
 | succ r ih=>
  intro j h n hv hb hj m a;have d:j<l.length:=by omega
  rw[gL d,uH]at a;refine aF ?_;refine ε<|aH U U<|δ ?_;refine φ<|ax U (by simp;omega)<|ay ?_;refine φ<|aA<|ε<|γ U<|γ U<|δ ?_;refine ε<|γ U<|γ U<|γ U<|aV U U hv d<|ν U (hv.jG d)<|ah U U<|aia k hb <| λh1 n1 c=>δ ?_;refine lA U (λg=>?_) (λg=>ay ?_)
  ·refine ε<|γ U<|γ U<|δ (aj ⟨_,rfl,by have:=a _ _ c;rw[ab (by simpa using g)]at this;exact this⟩)
  ·rw[Γ (by simpa using g)]at a;refine aP<|cj U U ⟨by omega,by omega⟩<|γ U<|δ ?_;exact au (ih (j+1) h1 n1 (hv.ext c) (hb.ext c) (by omega) (by omega) (λh' n' e=>a _ _ (c.trans e))) (Θ.rf U)
def uI(c:Cd C){v:V}{l:List (S×S)}{name:S}(hv:dV h n v l)(hlen:l.length<1000000)(a:∀h' n',Ext h n h' n'->Q (.b (decide (name∈l.map Prod.fst))) h' n'):μ C (.f 104 [] []) [v,st name] h n Q:=by
 refine μ.go c.f104 U ?_;refine ε<|eL U U U <| λh1 n1 o g e=>γ U<|δ ?_;have hb:Cl h1 n1 n [st name] 9:=⟨by omega,g⟩;have j:∀{Q:V->Hf->K->Prop},(∀h' n',Ext h1 n1 h' n'->Q (.i .i64 (uH name l 0)) h' n')->μ C (.f 205 [] []) [v,.f 188 [] [.p n 0]] h1 n1 Q:=by intro Q a;refine μ.go c.f205 U ?_;refine ε<|γ U<|δ ?_;refine φ<|ε<|γ U<|aJ U hv<|γ U<|δ ?_;exact aA<|au (aid c hlen _ 0 h1 n1 (hv.ext e) hb rfl (by omega) a) (Θ.rf U)
 have k:∀{Q:V->Hf->K->Prop},(∀h' n',Ext h1 n1 h' n'->Q (.b (decide (name∈l.map Prod.fst))) h' n')->μ C (.f 137 [] []) [v,.f 188 [] [.p n 0]] h1 n1 Q:=by intro Q a;refine μ.go c.f137 U ?_;refine ε<|γ U<|δ ?_;refine ε<|γ U<|γ U<|ah U U<|j <| λh2 m d=>iC U U<|γ U<|δ (aj ⟨_,rfl,by rw[aic];exact a _ _ d⟩)
 refine ε<|γ U<|rD U U<|ah U U<|k <| λh2 m d=>γ U<|δ (aj ⟨_,rfl,a _ _ (e.trans d)⟩)
abbrev pB:S:=[73,110,116]
abbrev rM:S:=[82,101,97,108]
abbrev FR:S:=[66,111,111,108]
def S8(c:Cd C){s:S}(a:Q (.b (decide (s=pB\/s=rM))) h n):μ C (.f 105 [] []) [st s] h n Q:=by
 refine μ.go c.f105 U ?_;refine ε<|γ U<|δ ?_;by_cases h1:s=pB
 ·refine ε<|γ U<|iS (b:=[73,110,116]) U U<|γ U<|θ U (by simp[h1])<|θ U (by simp[h1])<|bh U (by simp[h1]) U<|γ U<|δ (aj ⟨_,rfl,by simpa[h1]using a⟩)
 ·refine ε<|γ U<|iS (b:=[73,110,116]) U U<|γ U<|ζ U (by simp[h1])<|γ U<|ζ U (by simp[h1])<|iS (b:=[82,101,97,108]) U U<|aW U (by simp[h1]) U<|γ U<|δ (aj ⟨_,rfl,by simpa[h1]using a⟩)
end
section
variable {C:Nat->Option aE}{h:Hf}{n:K}{Q:V->Hf->K->Prop}
def A5(l:List Int)(ks:List Int)(m:Int):Int:=ks.foldl (λm k=>max m (l.getD k.toNat 0)) m
def dl(ts:List Nd):Nat->List Int
 | 0=>[]
 | i+1=>dl ts i++[A5 (dl ts i) (bO ts i) 0+1]
def rN(ts:List Nd):Int:=(dl ts ts.length).getD (ts.length - 1) 0
def uJ(ts:List Nd)(m:Nat):(dl ts m).length=m:=by induction m<;>simp_all [dl]
def aih{l:List Int}{b:Int}:∀(ks:List Int) (m:Int),(∀j,l.getD j 0<=b)->m<=b->A5 l ks m<=b/\m<=A5 l ks m:=by
 intro ks
 induction ks with
 | nil=>intro m _ hm;exact⟨hm,Int.le_refl _⟩
 | cons k ks ih=>
  intro m hl hm;have:=ih (max m (l.getD k.toNat 0)) hl (by have:=hl k.toNat;omega);simp only[A5,List.foldl_cons]at this ⊢;exact⟨this.1,by omega⟩
def aii(ts:List Nd):∀(m j:Nat),(dl ts m).getD j 0<=m/\0<=(dl ts m).getD j 0:=by
 intro m
 induction m with
 | zero=>intro j;simp[dl]
 | succ m ih=>
  intro j;by_cases hj:j<m
  ·rw[dl,dY,oT (by rw[uJ];exact hj),←dY];have:=ih j;omega
  ·by_cases hm:j=m
   ·subst hm;have e:(dl ts (j+1)).getD j 0=A5 (dl ts j) (bO ts j) 0+1:=by
     rw[dl,dY,qc (by rw[uJ];exact ξ _),uJ];simp
    rw[e];have:=aih (l:=dl ts j) (b:=j) (bO ts j) 0 (λk=>(ih k).1) (by omega);omega
   ·rw[dY,ml (by rw[uJ];omega)];simp;omega
def dz(ts:List Nd)(i:Nat):List Int:=dl ts i++List.replicate (ts.length - i) 0
def CA{ts:List Nd}{i:Nat}(hi:i<=ts.length):(dz ts i).length=ts.length:=by simp[dz,uJ];omega
def S9{ts:List Nd}{i k:Nat}(a:k<i):(dz ts i).getD k 0=(dl ts i).getD k 0:=by rw[dz,dY,oT (by rw[uJ];exact a),←dY]
def aij{ts:List Nd}{i:Nat}(hi:i<ts.length):(dz ts i)[i]'(by rw[CA (by omega)];exact hi)=0:=by unfold dz;rw[List.getElem_append_right (by rw[uJ];exact ξ _)];simp
def aik{ts:List Nd}{i:Nat}(hi:i<ts.length):(dz ts i).set i (A5 (dl ts i) (bO ts i) 0+1)=dz ts (i+1):=by
 unfold dz;rw[List.set_append_right _ _ (by rw[uJ];exact ξ _),uJ,kY,dl];have:ts.length - i=(ts.length - (i+1))+1:=by omega
 rw[this,xo,List.set_cons_zero,ku];rfl
def ail{α:Type}(v:α):∀{l:List α} {i:Nat},i<l.length->cJ [v] l i=some (l.set i v):=by
 intro l
 induction l with
 | nil=>intro i h;simp at h
 | cons a l ih=>
  intro i h;cases i with
  | zero=>simp[cJ,over]
  | succ i=>simp only[cJ,ih (by simpa using h),qe]
def aim(k:IntKind)(x:Int):∀(l:List Int) (i:Nat),(dX k l).set i (.i k x)=dX k (l.set i x):=by
 intro l
 induction l with
 | nil=>intro i;rfl
 | cons a l ih=>intro i;cases i with
  | zero=>rfl
  | succ i=>simp only[dX,qe,ih]
def CB{k:IntKind}{x:Int}{l:List Int}{i:Nat}(hi:i<l.length)(o:Nat)(a:o=i):lT (dX k l) 0 o 1 (.i k x)=some (dX k (l.set i x)):=by
 subst a;have:lT (dX k l) 0 o 1 (.i k x)=cJ [.i k x] (dX k l) o:=by simp[lT,V.cells,aB,V.one,gk]
 rw[this,ail _ (by rw[Cg];exact hi),aim]
def ain(k:IntKind):∀m:Nat,dS [.i k 0] m=dX k (List.replicate m 0):=by
 intro m
 induction m with
 | zero=>rfl
 | succ m ih=>simp only[dS,ih,xo,dX,j8,List.nil_append]
def Cl.Kt{b:K}{k:IntKind}{l:List Int}{e len:Nat}(a:Cl h n b (dX k l) e)(hl:l.length=len):fh h n k (.sl b 0 len len) l:=by subst hl;exact κ.whole a.1 a.2 (by simp[Cg])
def Ta{l:List Int}{i:Nat}(hi:i<l.length):l.getD i 0=l[i]:=by rw[dY,aX hi];rfl
def Ku{b:K}(hb:b.num<n.num){o l c:Nat}:bz n (.sl b o l c)=true:=QJ hb
def Kv(b:K)(o l c:Nat):dK (.sl b o l c) (.sl b o l c)=true:=by simp[dK,K.beq_refl]
section
variable {ts:List Nd}{i:Nat}{vv kv:V}{bl c3 c4:K}{Q1:Ex->Env->Hf->K->Prop}
def aio(hlen:ts.length<1000000)(hi:i<ts.length)(D:ts[i].kids.length<1000000)(u:∀k∈ts[i].kids,k<i/\0<=k)(E:bl.num≠c3.num)(F:bl.num≠c4.num):
 ∀(r j:Nat) (m:Int) (h:Hf),ts[i].kids.length - j=r->j<=ts[i].kids.length->0<=m->m<=i->Cl h n c3 [.sl bl 0 ts.length ts.length] 33->Cl h n c4 (kQ ts[i] vv kv i) 95->Cl h n bl (dX .i64 ((dz ts i).set i m)) 3->fh h n .i64 kv ts[i].kids->(kv=.ns\/kv.blk.num≠bl.num)->(∀E' h',bA bl h h'->Cl h' n bl (dX .i64 ((dz ts i).set i (A5 (dl ts i) (ts[i].kids.drop j) m+1))) 3->Q1 .normal E' h' n)->WC C aei [(k3,.p c3 0),(k4,.p c4 0),(Nj,kv),(Nm,.i .i64 (ts[i].kids.length:Nat)),(yS,iN j)] h n (blk 2 (sq C aej Q1)):=by
 intro r
 induction r with
 | zero=>
  intro j m h hj v w hm d e a c l f;have:j=ts[i].kids.length:=by omega
  subst this;have o:((dz ts i).set i m).length=ts.length:=by simp[CA (fC hi)]
  have hI:=a.Kt o;have g:=hI.get (i:=i) (by omega) 1;simp only[xk]at g;refine aF ?_;refine ε<|aH U U<|δ ?_;refine φ<|az U (by simp)<|bG ?_;refine aP<|ν U (d.ld U _)<|χ U<|ν U (e.ld U _)<|aV U U hI (by omega)<|ν U g<|cj U U ⟨by omega,by omega⟩<|aV U U hI (by omega)<|aR U U a.2 (CB (i:=i) (by omega) _ (by simp[V.off])) <| λh1 b b1=>δ ?_;have b1:bA bl h h1:=b1;replace b:h1 bl=_:=b;refine f _ _ b1 ⟨a.1,?_⟩;rw[List.set_set]at b;simpa[A5]using b
 | succ r ih=>
  intro j m h hj v w hm d e a c l f;have q:j<ts[i].kids.length:=by omega
  have x:=u ts[i].kids[j] (bL _);have t:=c.get q 1;rw[gL q]at f;obtain⟨k',y⟩:∃k':Nat,ts[i].kids[j]=(k':Int):=⟨ts[i].kids[j].toNat,by omega⟩;rw[y]at x t f;have o:((dz ts i).set i m).length=ts.length:=by simp[CA (fC hi)]
  have hI:=a.Kt o;have g:=hI.get (i:=i) (by omega) 1;simp only[xk]at g;have s:=hI.get (i:=k') (by omega) 1;rw[zi (by omega)]at s;have z:(dz ts i)[k']'(by rw[CA (by omega)];omega)=(dl ts i).getD k' 0:=by rw[←S9 (by omega),Ta]
  rw[z]at s;have G:=aii ts i k';refine aF ?_;refine ε<|aH U U<|δ ?_;refine φ<|ax U (by simp;omega)<|ay ?_;refine φ<|aA<|ε<|aV U U c q<|ν U t<|γ U<|δ ?_;refine rB<|aO U (d.ld U _) (Ku a.1) (Kv _ _ _ _)<|cI U<|aO U (e.ld U _) U (gJ _ _)<|aO U (d.ld U _) (Ku a.1) (Kv _ _ _ _)<|cI U<|aO U (e.ld U _) U (gJ _ _)<|js U U hI (by omega)<|aO U g U (gJ _ _)<|aO U (d.ld U _) (Ku a.1) (Kv _ _ _ _)<|aI U<|js U U hI (by omega)<|aO U s U (gJ _ _)<|adw U U<|js U U hI (by omega)<|fK U U a.2 (CB (i:=i) (by omega) _ (by simp[V.off])) <| λh1 b b1=>df (by simp[AG,nE,pS,Nat.testBit]) ?_;have b1:bA bl h h1:=b1;replace b:h1 bl=_:=b;rw[List.set_set]at b;refine aP<|cj U U ⟨by omega,by omega⟩<|γ U<|δ ?_;refine au (ih (j+1) (max m ((dl ts i).getD k' 0)) h1 (by omega) (by omega) (by omega) (by omega) (d.Ξ b1 (by omega)) (e.Ξ b1 (by omega)) ⟨a.1,b⟩ (κ.Ξ c b1 l) l ?_) (Θ.rf U);intro E' h' A B;exact f E' h' (λk c=>by rw[A k c,b1 k c]) (by simpa[A5]using B)
end
def Td(z:Cd C){t:V}{ts:List Nd}(ht:bK h n t ts)(hlen:ts.length<1000000)(h0:0<ts.length)(J:∀i (hi:i<ts.length),ts[i].kids.length<1000000)(L:∀j (hj:j<ts.length),∀k∈ts[j].kids,k<j/\0<=k)
 (M:∀h' n',Ext h n h' n'->Q (.i .i64 (rN ts)) h' n'):μ C (.f 45 [] []) [t] h n Q:=by
 obtain⟨m,tm⟩:=ht.get;refine μ.go z.f45 U ?_;obtain⟨cs,hs⟩:=ht.sl;refine ε<|γ U<|δ ?_;refine ε<|γ U<|aJ U hs<|xY U U (by omega) (by omega) <| λh1 n1 dd N O=>bN <| λh2 s iw P A=>aR U U P U <| λu R b3=>δ ?_;have v:Ext h n u s:=(O.trans A).Ξ b3 (by omega);have c1:Cl u s n (dX .i64 (dz ts 0)) 3:=by refine((Cl.ext ⟨by omega,?_⟩ A)).Ξ b3 (by omega);rw[N,ain];simp[dz,dl]
 have c2:Cl u s n1 [.sl n 0 ts.length ts.length] 33:=⟨by omega,R⟩;refine φ<|ε<|γ U<|ah U U<|Ko z (tm.ext v) hlen ?_;intro b e h4 r x4 S wK Te it;refine δ<|aA ?_;let I:Nat->Hf->K->Prop:=λi h' n'=>Ext h n h' n'/\(b.num<n'.num/\h' b=some (.c [t] e 0))/\Cl h' n' n (dX .i64 (dz ts i)) 3/\Cl h' n' n1 [.sl n 0 ts.length ts.length] 33;have y1:=v.1;have y2:=x4.1;refine tj U it I (λ_ _ _=>False) ?_ ?_ ?_ ?_ ?_ ?_ ?_ ?_
 ·rintro j h1 n1 h' n' ⟨g1,⟨a,p⟩,l,d⟩ ex;exact⟨g1.trans ex,⟨eE a ex.1,by rw[ex.2 _ a];exact p⟩,l.ext ex,d.ext ex⟩
 ·rintro j h1 n1 h' ⟨g1,⟨a,p⟩,l,d⟩ g;have T:=g1.Ξ g (by omega);exact⟨T,⟨a,by rw[g _ (by omega)];exact p⟩,l.Ξ g (by omega),d.Ξ g (by omega)⟩
 ·rintro j h1 n1 ⟨g1,a,_⟩;exact⟨a.1,a.2,tm.ext g1⟩
 ·intro j hj;rw[rL];rfl
 ·intro h' g;have hs:r.succ.num=r.num+1:=K.eI r;have g1:Ext h n h' r.succ:=((v.trans x4).Ξ g (by omega)).succ;exact⟨g1,⟨by omega,by rw[g _ (by omega)];exact S⟩,((c1.ext x4).Ξ g (by omega)).up (by omega),((c2.ext x4).Ξ g (by omega)).up (by omega)⟩
 ·rintro j hj h1 m1 E1 B ⟨g1,⟨a,p⟩,l,d⟩ w;have o:j<ts.length:=by rw[qC]at hj;exact hj
  rw[rL]at w;simp only[jF,kV]at w;subst w;obtain⟨vv,kv,W,X,x⟩:=tm.row o;rw[W,Cz];have Y:=uG ts[j] (κ.one X) (κ.one x) (i:=j);refine aP<|bN <| λh5 D pC Z q=>aR U U Z (bS rfl rfl Y) <| λh6 a6 b6=>δ ⟨rfl,by rw[b6 _ (by omega),q.2 _ B],λy b7=>?_⟩;have c4:Cl y D m1 (kQ ts[j] vv kv j) 95:=(Cl.Ξ ⟨by omega,a6⟩ b7 (by omega));have E:Ext h n y D:=((g1.trans q).Ξ b6 (by omega)).Ξ b7 (by omega);have F:=x.ext E;have aiq:=J j o;refine aA ?_;refine φ<|ε<|χ U<|χ U<|ν U (c4.ld U _)<|aJ U F<|γ U<|δ ?_;refine aA ?_;refine au (aio (i:=j) (vv:=vv) (c3:=n1) (c4:=m1) (bl:=n) hlen o aiq (L j o) (by omega) (by omega) _ 0 0 y rfl (by omega) (by omega) (by omega) (((d.ext q).Ξ b6 (by omega)).Ξ b7 (by omega)) c4 ?_ F ?_ ?_) (Θ.rf U)
  ·have:=((l.ext q).Ξ b6 (by omega)).Ξ b7 (by omega);have e0:(dz ts j).set j 0=dz ts j:=by
    apply qg (by simp);intro k h1 h2;rw[List.getElem_set];split
    ·rename_i hk;subst hk;exact(aij o).symm
    ·rfl
   rw[e0];exact this
  ·cases κ.dT x with
   | inl h=>exact Or.inl h
   | inr h=>exact Or.inr (by omega)
  ·intro E' h8 b8 G;refine⟨by omega,b8 _ (by omega),E.Ξ b8 (ξ _),⟨by omega,by rw[b8 _ (by omega),b7 _ (by omega),b6 _ (by omega),q.2 _ a];exact p⟩,?_,(((d.ext q).Ξ b6 (by omega)).Ξ b7 (by omega)).Ξ b8 (by omega)⟩;rw[ig,←jW o,aik o]at G;exact G
 ·rintro h' n' mQ ⟨g1,⟨a,p⟩,l,d⟩;rw[qC]at l;have hl:(dz ts ts.length).length=ts.length:=CA (ξ _);have hI:=l.Kt hl;have H:=hI.get (i:=ts.length - 1) (by omega) 1;have hx:(dz ts ts.length)[ts.length - 1]'(by omega)=rN ts:=by rw[←Ta,S9 (by omega)];rfl
  rw[hx]at H;refine ε<|ν U (d.ld U _)<|ν U (d.ld U _)<|aJ U hI<|pn U U ⟨by omega,by omega⟩<|?_;rw[show((dz ts ts.length).length:Int) - 1=((ts.length - 1:Nat):Int) by omega];refine aV U U hI (by omega)<|ν U H<|γ U<|δ<|aj ⟨_,rfl,M _ _ g1⟩
 ·rintro ex h' n' h2 B hf;exact hf.elim
def w45(a:Cd C){t:V}{ts:List Nd}(ht:bK h n t ts)(hlen:ts.length<1000000)(h0:0<ts.length)(b:∀i (hi:i<ts.length),ts[i].kids.length<1000000)(c:∀j,j<ts.length->ord ts j=true)
 (d:∀h' n',Ext h n h' n'->Q (.i .i64 (rN ts)) h' n'):μ C (.f 45 [] []) [t] h n Q:=Td a ht hlen h0 b (λj hj=>by have:=jL (c j hj);rw[jW hj]at this;exact this) d
end
section
variable {C:Nat->Option aE}{h:Hf}{n:K}{Q:V->Hf->K->Prop}
end
section
variable {C:Nat->Option aE}{h:Hf}{n:K}{Q:V->Hf->K->Prop}
end
section
variable {C:Nat->Option aE}{h:Hf}{n:K}{Q:V->Hf->K->Prop}
structure Gr(h0:Hf)(n0:K)(h:Hf)(n:K)(e z:Nat)(v:V)(len:Nat)(cs:List V):Prop where
 ext:Ext h0 n0 h n
 own:dB h e z v len cs
 at_:dB.At v n0 n
section
variable {h0 h':Hf}{n0 n':K}{e z len m:Nat}{v v':V}{cs new:List V}
def Gr.ns(a:Ext h0 n0 h n):Gr h0 n0 h n e z .ns 0 []:=⟨a,dB.ns h e z,Or.inl U⟩
def Gr.lt(a:Gr h0 n0 h n e z v len cs):v=.ns\/v.blk.num<n.num:=a.at_.imp id And.right
def Gr.sl(a:Gr h0 n0 h n e z v len cs):κ h n z v len cs:=a.own.sl a.lt
def Gr.ge(a:Gr h0 n0 h n e z v len cs):v=.ns\/n0.num<=v.blk.num:=a.at_.imp id And.left
def Gr.on(a:Gr h0 n0 h n e z v len cs)(x:Ext h n h' n'):Gr h0 n0 h' n' e z v len cs:=
 ⟨a.ext.trans x,a.own.ext (a.lt.imp id λh=>x.2 _ h),a.at_.imp id λh=>⟨h.1,eE h.2 x.1⟩⟩
def Gr.Ξ{b:K}(a:Gr h0 n0 h n e z v len cs)(x:bA b h h')(hb:n0.num<=b.num)(hv:v=.ns\/v.blk.num≠b.num):Gr h0 n0 h' n e z v len cs:=
 ⟨a.ext.Ξ x hb,a.own.ext (hv.imp id λh=>x _ h),a.at_⟩
def Gr.app(a:Gr h0 n0 h n e z v len cs)(c:dB h' e z v' (len+m) (cs++new))(hb:v'.blk=n)(f:n'.num=n.num+1)(hs:∀b:K,b.num<n.num->(v=.ns\/b.num≠v.blk.num)->h' b=h b):Gr h0 n0 h' n' e z v' (len+m) (cs++new):=
 ⟨⟨by have:=a.ext.1;omega,λk d=>by have h1:=a.ext.1;rw[hs k (by omega) (a.ge.imp id λh=>by omega),a.ext.2 k d]⟩,c,Or.inr ⟨by rw[hb];exact a.ext.1,by rw[hb];omega⟩⟩
end
def Tf{E:Env}{k k':K}{v w:V}(h1:lk E k=some v)(c:v.cells=[v])(d:v.one=true)(f:lk E k'=some w)(g:w.cells=[w])(i:w.one=true){a b:V}:iQ E [a,b] [(0,1,.t k),(1,1,.t k')]=some [v,w]:=by simp only[iQ,ge,h1,f,c,g,eh,mW,aB,d,i,cJ,over];rfl
def rP{E:Env}{k:K}{v:V}(h1:lk E k=some v)(b:v.cells=[v])(c:v.one=true){a:V}:iQ E [a] [(0,1,.t k)]=some [v]:=by simp only[iQ,ge,h1,b,eh,mW,aB,c,cJ,over];rfl
def bB.one{k:IntKind}{v:V}{l:List Nat}(a:bB h n k v l):v.one=true:=κ.one a
def bB.cells{k:IntKind}{v:V}{l:List Nat}(a:bB h n k v l):v.cells=[v]:=κ.cells a
def Cl.vG{b:K}{k:IntKind}{l:List Nat}{e len:Nat}(a:Cl h n b (nC k l) e)(hl:l.length=len):bB h n k (.sl b 0 len len) l:=by subst hl;exact κ.whole a.1 a.2 (by simp[Je])
def bB.xF{k:IntKind}{v:V}{l:List Nat}(a:bB h n k v l):v=.ns\/v.blk.num<n.num:=κ.dT a
def air{l:List Nat}{m:Nat}(hm:m<l.length)(h0:l[m]=0):eM (l.take (m+1))=eM (l.take m):=by rw[gm hm,h0,ahL]
def ais{l:List Nat}{m:Nat}(hm:m<l.length)(h0:l[m]≠0):eM (l.take (m+1))=l.take (m+1):=by rw[gm hm,ahM _ h0]
end
section
variable {C:Nat->Option aE}{h:Hf}{n:K}{Q:V->Hf->K->Prop}
def pD{l:List Nat}{i:Nat}(hi:i<l.length):l.getD i 0=l[i]:=by rw[dY,aX hi];rfl
def Th{m:Made}{p:PR}{b:PB}(h1:p.val (gv b.h p.Δ m))(h2:p.val (gv b.h' p.Δ m)):pS m p b:=by
 unfold pS;cases (Nat.testBit p.Δ b.i||Nat.testBit b.Δ p.i)
 ·exact⟨h1,h2⟩
 ·trivial
def cT{m:Made}{i Δ a b sz:Nat}{agg:Bool}{p v:V}{H H':Hf}(h1:bc (gv H Δ m) agg sz p=some v)(h2:bc (gv H' Δ m) agg sz p=some v):pS m ⟨i,Δ,λg=>bc g agg sz p=some v⟩ ⟨a,b,H,H'⟩:=Th h1 h2
def al{m:Made}{p:PR}{b:PB}(h:(Nat.testBit p.Δ b.i||Nat.testBit b.Δ p.i)=true):pS m p b:=by unfold pS;rw[h];trivial
end
section
variable {C:Nat->Option aE}{h:Hf}{n:K}{Q:V->Hf->K->Prop}
structure Pr(h0:Hf)(n0:K)(h:Hf)(n:K)(b2 b3 bo:K)(na nb:Bool)(va vb:V)(L:Nat)(out:List Nat):Prop where
 ext:Ext h0 n0 h n
 c2:Cl h n b2 [.b na,va] 310
 c3:Cl h n b3 [.b nb,vb] 310
 co:Cl h n bo (nC .i64 out) 3
 lo:n0.num<=bo.num
 ne2:b2.num≠bo.num
 DU:b3.num≠bo.num
 len:out.length=L
 sm:Sm 10000 out
def Kx{l:List Nat}{i j x:Nat}:(l.set i x).getD j 0=if i=j/\i<l.length then x else l.getD j 0:=by
 rw[dY,dY,List.getElem?_set];by_cases h:i=j
 ·subst h;by_cases h2:i<l.length
  ·simp[h2]
  ·simp[h2,ml (show l.length<=i by omega)]
 ·simp[h]
section
variable {h0:Hf}{n0 b2 b3 bo:K}{na nb:Bool}{va vb x4:V}{a b:List Nat}
end
end
section
variable {C:Nat->Option aE}{h:Hf}{n:K}{Q:V->Hf->K->Prop}
def Ti{B k:Nat}{l:List Nat}(hl:Nz l)(hB:1<B)(h:val B l<B ^ k):l.length<=k:=by
 by_cases c:l=[]
 ·simp[c]
 ·have h1:=FN (B:=B) hl (by omega) c;have h2:l.length - 1<k:=(Nat.pow_lt_pow_iff_right hB).1 (by omega);omega
def aiu{a b:Nat}:(jc a b<0)↔a<b:=by
 unfold jc;split
 ·simp;omega
 ·split
  ·simp;omega
  ·simp;omega
section
variable {h0:Hf}{n0:K}{va vb vr vq:V}{b r:List Nat}{i8:Int}
end
section
variable {h0:Hf}{n0:K}{va vb:V}{a b:List Nat}{bq:K}
end
def CE:∀l:List Nat,(eM l).length<=l.length:=by
 intro l
 induction l with
 | nil=>simp[eM]
 | cons a l ih=>
  simp only[eM];split
  ·split<;>simp
  ·rename_i b m h;rw[h]at ih;simp at ih ⊢;omega
end
section
variable {C:Nat->Option aE}{h:Hf}{n:K}{Q:V->Hf->K->Prop}
def Ky{c:UInt8}(h:lJ c=true):48<=c.toNat/\c.toNat<=57:=by simpa only[lJ,aD,cC]using h
def dB.one{h:Hf}{e z len:Nat}{v:V}{cs:List V}(a:dB h e z v len cs):v.one=true:=by
 rcases a.2 with h | ⟨_,b,h,_⟩
 ·rw[h.1];rfl
 ·rw[h];rfl
def dB.cells{h:Hf}{e z len:Nat}{v:V}{cs:List V}(a:dB h e z v len cs):v.cells=[v]:=by
 rcases a.2 with h | ⟨_,b,h,_⟩
 ·rw[h.1];rfl
 ·rw[h];rfl
section
variable {b:S}{x2 x3:V}
end
end
section
variable {C:Nat->Option aE}{h:Hf}{n:K}{Q:V->Hf->K->Prop}
section
variable {x1:V}{h0:Hf}{n0:K}
end
end
section
variable {C:Nat->Option aE}{h:Hf}{n:K}{Q:V->Hf->K->Prop}
def Tj{s:S}(h:jt s=0):s.length<=121:=by have:=(FP h).2;have:=Kl s;omega
def FT(a b:Int):fm [a,b]=if a≠0 then a else b:=by simp only[fm];by_cases h:a=0<;>simp[h];by_cases h2:b=0<;>simp[h2]
def Kz(a b c:Int):fm [a,b,c]=if a≠0 then a else if b≠0 then b else c:=by simp only[fm];by_cases h:a=0<;>by_cases h2:b=0<;>by_cases d:c=0<;>simp[h,h2,d]
def Tk(a b c d:Int):fm [a,b,c,d]=if a≠0 then a else if b≠0 then b else if c≠0 then c else d:=by simp only[fm];by_cases h:a=0<;>by_cases h2:b=0<;>by_cases e:c=0<;>by_cases f:d=0<;>simp[h,h2,e,f]
def isNumeral(s:S):Bool:=decide (jt s=0)||decide (rK s=0)
def yg(c:UInt8):Bool:=!(decide (c.toNat=32)||decide (c.toNat=10)||decide (c.toNat=40)||decide (c.toNat=41)||decide (c.toNat=123)||decide (c.toNat=125))
def iH(s:S):Bool:=!decide (s.length=0)&&(!decide (200<s.length)&&s.all yg)
end
section
variable {C:Nat->Option aE}{h:Hf}{n:K}{Q:V->Hf->K->Prop}
def nN(op:Int)(k:Nat):Bool:=
 if op=0\/op=1\/op=2\/op=3 then decide (k=0) else if op=4\/op=6\/op=7 then true else if op=5 then decide (k=1) else if op=10 then decide (k=3)
 else if op=17\/op=18\/op=19 then decide (1<=k) else decide (k=2)
def nO(x:Nd){vv kv:V}(hv:vv.one=true)(a:kv.one=true):aB (cB x vv kv)=true:=by simp only[cB,aB,hv,a];rfl
end
section
variable {C:Nat->Option aE}{h:Hf}{n:K}{Q:V->Hf->K->Prop}
end
section
variable {C:Nat->Option aE}{h:Hf}{n:K}{Q:V->Hf->K->Prop}
section
variable {h0:Hf}{n0 bo:K}{t:V}{ts:List Nd}
end
def mD(x:Nd):Int:=
 if x.op=2 then (if isNumeral x.name then 0 else 6) else if x.op=3 then (if iH x.name then 0 else 6) else if x.op=4 then (if x.name=[] then 6 else 0) else (if x.name=[] then 0 else 6)
end
section
variable {C:Nat->Option aE}{h:Hf}{n:K}{Q:V->Hf->K->Prop}
def qE(l:List (S×S)):Nat->Nat->Int
 | 0,_=>0
 | m+1,i=>match l[i]? with
  | none=>0
  | some v=>if iH v.1=false then 6 else if v.1∈(l.take i).map Prod.fst then 7 else qE l m (i+1)
def lL(x:Nd):Int:=
 if x.op=17\/x.op=18 then (if x.vars.length<1\/12<x.vars.length then 5 else qE x.vars x.vars.length 0) else if 0<x.vars.length then 5 else 0
def dV.sub{h:Hf}{n0:K}{v:V}{l:List (S×S)}{i j:Nat}(a:κ h n0 2 v (j - i) (((fU l).drop (i*2)).take ((j - i)*2)))(hj:j<=l.length):dV h n0 v ((l.drop i).take (j - i)):=by
 rw[QK]at a;unfold dV;have:((l.drop i).take (j - i)).length=j - i:=by simp;omega
 rw[this];exact a
def yh(x:Nd):Int:=
 if x.op=2 then (if x.sort=pB/\jt x.name=0\/x.sort=rM/\rK x.name=0 then 0 else 13)
 else if x.op=12\/x.op=13\/x.op=14 then (if x.sort=pB\/x.sort=rM then 0 else 13)
 else if x.op=3\/x.op=4\/x.op=10 then (if x.sort=[] then 13 else 0)
 else if x.op=19 then (if x.sort=[] then 0 else 13)
 else (if x.sort=FR then 0 else 13)
end
section
variable {C:Nat->Option aE}{h:Hf}{n:K}{Q:V->Hf->K->Prop}
structure Bd(ts:List Nd):Prop where
 len:ts.length<100000
 jM:∀i (hi:i<ts.length),ts[i].kids.length<1000000
 nm:∀i (hi:i<ts.length),ts[i].name.length<1000000
 vl:∀i (hi:i<ts.length),ts[i].vars.length<1000
 vn:∀i (hi:i<ts.length),∀v∈ts[i].vars,v.1.length<10000000
def uK(op:Int):Bool:=decide (op<0)||decide (20<=op)
def yi(ts:List Nd)(x:Nd):Int:=fm [if lK ts x.op x.kids.length x.kids 0 then 11 else 0,mD x,lL x,yh x]
def nP(ts:List Nd)(x:Nd)(i:Nat):Int:=fm [if uK x.op then 11 else 0,if nN x.op x.kids.length then 0 else 2,if ord ts i then 0 else 9]
def ki(ts:List Nd)(i:Nat):Int:=
 match ts[i]? with
 | none=>0
 | some x=>if nP ts x i≠0 then nP ts x i else yi ts x
def mE(ts:List Nd):Nat->Nat->Int
 | 0,_=>0
 | m+1,i=>if ki ts i≠0 then ki ts i else mE ts m (i+1)
def Al(ts:List Nd):Int:=fm [if fs ts (ts.length - 1)=0 then 0 else 9,if dZ ts (ts.length - 1)=19 then 11 else 0,if 60<rN ts then 24 else 0]
def cX(ts:List Nd):Int:=
 if ts.length=0 then 10 else if 2000<ts.length then 5 else if mE ts ts.length 0≠0 then mE ts ts.length 0 else Al ts
def Tl{ts:List Nd}{i:Nat}(hi:i<ts.length):ki ts i=if nP ts ts[i] i≠0 then nP ts ts[i] i else yi ts ts[i]:=by simp[ki,hi]
def aiv{ts:List Nd}{x:Nd}{i:Nat}(h:nP ts x i=0):ord ts i=true:=by
 unfold nP at h;rw[Kz]at h;by_cases a:ord ts i=true
 ·exact a
 ·by_cases h1:uK x.op=true<;>by_cases h2:nN x.op x.kids.length=true<;>simp[h1,h2,a]at h
def FU{ts:List Nd}{i:Nat}(hi:i<ts.length)(a:ord ts i=true):∀k∈ts[i].kids,0<=k/\k<ts.length:=by intro k b;have:=jL a k (by rw[jW hi];exact b);omega
end
section
variable {C:Nat->Option aE}{h:Hf}{n:K}{Q:V->Hf->K->Prop}
def FV{a b c d e v:V}(f:v.cells=[v])(g:v.one=true):lT [a,b,c,d,e] 0 (0+3) 1 v=some [a,b,c,v,e]:=by simp only[lT,f,aB,g,eh,mW,cJ,over];rfl
def FW{a b c d e v:V}(f:v.cells=[v])(g:v.one=true):lT [a,b,c,d,e] 0 (0+4) 1 v=some [a,b,c,d,v]:=by simp only[lT,f,aB,g,eh,mW,cJ,over];rfl
def FX{cs:List V}(hl:cs.length=5)(f:aB cs=true){E:Env}{k:K}(h1:lk E k=some (.a cs)):
 iQ E [.i .i64 0,.s 0 0,.s 0 0,.ns,.ns] [(0,5,.t k)]=some cs:=by
 match cs,hl with
 | [a,b,c,d,e],_=>
  simp only[iQ,ge,h1,V.cells,eh,mW,f,cJ,over];rfl
def dw(P:Nd->V×V->Prop):List Nd->List (V×V)->Prop
 | [],[]=>True
 | x::ts,p::m=>P x p/\dw P ts m
 | _,_=>False
def dw.len{P:Nd->V×V->Prop}:∀{ts:List Nd} {m:List (V×V)},dw P ts m->m.length=ts.length:=by
 intro ts
 induction ts with
 | nil=>intro m h;cases m with | nil=>rfl | cons=>exact h.elim
 | cons x ts ih=>intro m h;cases m with | nil=>exact h.elim | cons p m=>simp[ih h.2]
def dw.mono{P P':Nd->V×V->Prop}(f:∀x p,P x p->P' x p):∀{ts:List Nd} {m:List (V×V)},dw P ts m->dw P' ts m:=by
 intro ts
 induction ts with
 | nil=>intro m h;cases m with | nil=>trivial | cons=>exact h.elim
 | cons x ts ih=>intro m h;cases m with | nil=>exact h.elim | cons p m=>exact⟨f _ _ h.1,ih h.2⟩
def dw.app{P:Nd->V×V->Prop}:∀{ts a:List Nd} {m b:List (V×V)},dw P ts m->dw P a b->dw P (ts++a) (m++b):=by
 intro ts
 induction ts with
 | nil=>intro a m b h h';cases m with | nil=>exact h' | cons=>exact h.elim
 | cons x ts ih=>intro a m b h h';cases m with | nil=>exact h.elim | cons p m=>exact⟨h.1,ih h.2 h'⟩
def dw.get{P:Nd->V×V->Prop}:∀{ts:List Nd} {m:List (V×V)},dw P ts m->∀i (hi:i<ts.length) (hj:i<m.length),P ts[i] m[i]:=by
 intro ts
 induction ts with
 | nil=>intro m h i hi;simp at hi
 | cons x ts ih=>
  intro m h i hi hj;cases m with
  | nil=>exact h.elim
  | cons p m=>
   cases i with
   | zero=>exact h.1
   | succ i=>exact ih h.2 i (by simpa using hi) (by simpa using hj)
def dE(a b:V):Prop:=a=.ns\/b=.ns\/a.blk.num≠b.blk.num
def dE.of{a b:V}{n:K}(h1:a=.ns\/a.blk.num<n.num)(h2:b=.ns\/n.num<=b.blk.num):dE a b:=by
 rcases h1 with h1 | h1
 ·exact Or.inl h1
 ·rcases h2 with h2 | h2
  ·exact Or.inr (Or.inl h2)
  ·exact Or.inr (Or.inr (by omega))
def dE.symm{a b:V}(h:dE a b):dE b a:=by
 rcases h with h | h | h
 ·exact Or.inr (Or.inl h)
 ·exact Or.inl h
 ·exact Or.inr (Or.inr (Ne.symm h))
def κ.iI{h h':Hf}{n n':K}{z:Nat}{v:V}{len:Nat}{cs:List V}(a:κ h n z v len cs)(e:v=.ns\/h' v.blk=h v.blk)(g:n.num<=n'.num):κ h' n' z v len cs:=by
 obtain⟨h1,h2⟩:=a;refine⟨h1,h2.imp id λ⟨⟨b,o,c,d,i⟩,row,f,j⟩=>⟨⟨b,o,c,d,eE i g⟩,row,?_,j⟩⟩;rcases e with e | e
 ·subst e;cases d with | inl e=>cases e.1 | inr e=>cases e
 ·unfold iP at f ⊢;rw[e];exact f
structure RO(h:Hf)(lo n:K)(v:V)(x:Nd)(p:V×V):Prop where
 b:dV h n p.1 x.vars
 k:fh h n .i64 p.2 x.kids
 ko:x.kids=[]\/(p.2=.su p.2.blk 0 x.kids.length 1/\h p.2.blk=some (.c (dX .i64 x.kids) 3 0))
 kr:p.2=.ns\/lo.num<=p.2.blk.num
 vr:p.1=.ns\/lo.num<=p.1.blk.num
 vk:dE p.1 p.2
 vt:dE p.1 v
 kt:dE p.2 v
structure TO(h:Hf)(lo n:K)(v:V)(ts:List Nd)(m:List (V×V)):Prop where
 sl:κ h n 5 v ts.length (bJ ts m)
 rows:dw (RO h lo n v) ts m
 pw:m.Pairwise λp q=>dE p.2 q.2/\dE p.1 q.2/\dE p.2 q.1
 ge:v=.ns\/lo.num<=v.blk.num
def TO.tm{h:Hf}{lo n:K}{v:V}{ts:List Nd}{m:List (V×V)}(a:TO h lo n v ts m):kJ h n v ts m:=
 ⟨a.rows.len,a.sl,λi hi=>⟨(a.rows.get i hi (by rw[a.rows.len];exact hi)).b,(a.rows.get i hi (by rw[a.rows.len];exact hi)).k⟩⟩
def RO.step{h h':Hf}{lo n n':K}{v v':V}{x:Nd}{p:V×V}(a:RO h lo n v x p)(hs:∀b:K,b.num<n.num->(v=.ns\/b.num≠v.blk.num)->h' b=h b)(c:n.num<=n'.num)(d:n.num<=v'.blk.num):RO h' lo n' v' x p:=by
 have f:=κ.dT a.b;have i:=κ.dT a.k;have m:p.1=.ns\/h' p.1.blk=h p.1.blk:=by
  rcases f with l | l
  ·exact Or.inl l
  ·rcases a.vt with g | g | g
   ·exact Or.inl g
   ·exact Or.inr (hs _ l (Or.inl g))
   ·exact Or.inr (hs _ l (Or.inr g))
 have j:p.2=.ns\/h' p.2.blk=h p.2.blk:=by
  rcases i with l | l
  ·exact Or.inl l
  ·rcases a.kt with g | g | g
   ·exact Or.inl g
   ·exact Or.inr (hs _ l (Or.inl g))
   ·exact Or.inr (hs _ l (Or.inr g))
 refine⟨κ.iI a.b m c,κ.iI a.k j c,?_,a.kr,a.vr,a.vk,dE.of f (Or.inr d),dE.of i (Or.inr d)⟩;rcases a.ko with g | g
 ·exact Or.inl g
 ·rcases j with e | e
  ·have:=g.1;rw[e]at this;cases this
  ·exact Or.inr ⟨g.1,by rw[e];exact g.2⟩
def dB.nil{h:Hf}{e z len:Nat}{v:V}{cs:List V}(a:dB h e z v len cs)(g:v=.ns):len=0:=by
 rcases a.2 with h | ⟨_,b,h1,h2⟩
 ·exact h.2
 ·rw[g]at h1;cases h1
def dB.su{h:Hf}{e z len:Nat}{v:V}{cs:List V}(a:dB h e z v len cs):v=.ns\/(v=.su v.blk 0 len z/\h v.blk=some (.c cs e 0)):=by
 rcases a.2 with h | ⟨_,b,h1,h2⟩
 ·exact Or.inl h.1
 ·subst h1;exact Or.inr ⟨rfl,h2⟩
section
variable {h0:Hf}{n0:K}{t:V}{ts:List Nd}
end
end
section
variable {C:Nat->Option aE}{h:Hf}{n:K}{Q:V->Hf->K->Prop}
def aiy:∀(l:List Nd) (m:List (V×V)),m.length=l.length->∀i,(bJ l m).drop (i*5)=bJ (l.drop i) (m.drop i):=by
 intro l
 induction l with
 | nil=>intro m hm i;cases m with | nil=>simp[bJ] | cons=>simp at hm
 | cons x l ih=>
  intro m hm i;cases m with
  | nil=>simp at hm
  | cons p m=>
   cases i with
   | zero=>simp
   | succ i=>
    rw[zu,zu,←ih m (by simpa using hm) i];rw[tQ,oW,←List.drop_drop];rfl
def FY:∀(l:List Nd) (m:List (V×V)),m.length=l.length->∀i,(bJ l m).take (i*5)=bJ (l.take i) (m.take i):=by
 intro l
 induction l with
 | nil=>intro m hm i;cases m with | nil=>simp[bJ] | cons=>simp at hm
 | cons x l ih=>
  intro m hm i;cases m with
  | nil=>simp at hm
  | cons p m=>
   cases i with
   | zero=>simp[bJ]
   | succ i=>
    rw[j7,j7];show(cB x p.1 p.2++bJ l m).take ((i+1)*5)=cB x p.1 p.2++bJ (l.take i) (m.take i);have a:(cB x p.1 p.2).length=5:=rfl;rw[←ih m (by simpa using hm) i,tQ,oW,List.take_append,a,show 5+i*5 - 5=i*5 by omega,ot (by rw[a];omega)]
def kJ.sub{v v':V}{ts:List Nd}{m:List (V×V)}(a:kJ h n v ts m){i j:Nat}(e:i+j<=ts.length)(s:κ h n 5 v' j (((bJ ts m).drop (i*5)).take (j*5))):kJ h n v' ((ts.drop i).take j) ((m.drop i).take j):=by
 obtain⟨hm,h1,h2⟩:=a;have hl:((ts.drop i).take j).length=j:=by simp;omega
 rw[aiy _ _ hm,FY _ _ (by simp[hm])]at s;refine⟨by simp[hm],by rw[hl];exact s,λk b=>?_⟩;rw[hl]at b;have c:((ts.drop i).take j)[k]'(by rw[hl];exact b)=ts[i+k]'(by omega):=by simp
 have d:((m.drop i).take j)[k]'(by simp[hm];omega)=m[i+k]'(by omega):=by simp
 simp only[c,d];exact h2 (i+k) (by omega)
def bK.sub{v v':V}{ts:List Nd}{cs:List V}(a:bK h n v ts){i j:Nat}(f:i+j<=ts.length)(l:κ h n 5 v ts.length cs)(s:κ h n 5 v' j ((cs.drop (i*5)).take (j*5))):bK h n v' ((ts.drop i).take j):=by
 obtain⟨m,hm⟩:=a;have:cs=bJ ts m:=by
  obtain⟨_,h1,_⟩:=hm;obtain⟨g1,o⟩:=l;obtain⟨k1,k2⟩:=h1;rcases o with g | ⟨_,row,r1,r2⟩
  ·have b:cs=[]:=by rw[g.2]at g1;simpa using g1
   have c:bJ ts m=[]:=by rw[g.2]at k1;simpa using k1
   rw[b,c]
  ·rcases k2 with k | ⟨_,p,d,e⟩
   ·have b:cs=[]:=by rw[k.2]at g1;simpa using g1
    have c:bJ ts m=[]:=by rw[k.2]at k1;simpa using k1
    rw[b,c]
   ·rw[r1]at d;cases d;rw[r2]at e;cases e;rfl
 subst this;exact⟨_,kJ.sub hm f s⟩
def ma(f:Nat)(x:Nd):Nd:=⟨x.op,x.sort,x.name,x.vars,x.kids.map λk=>k - f⟩
def part(ts:List Nd)(i:Nat):List Nd:=((ts.drop (fs ts i)).take (i+1 - fs ts i)).map (ma (fs ts i))
def hJ{ts:List Nd}{i:Nat}(hi:i<ts.length):(part ts i).length=i+1 - fs ts i:=by have:=fw ts i;simp[part];omega
def dw.of{P:Nd->V×V->Prop}:∀{ts:List Nd} {m:List (V×V)},m.length=ts.length->(∀i (hi:i<ts.length) (hj:i<m.length),P ts[i] m[i])->dw P ts m:=by
 intro ts
 induction ts with
 | nil=>intro m hm _;cases m with | nil=>trivial | cons=>simp at hm
 | cons x ts ih=>
  intro m hm h;cases m with
  | nil=>simp at hm
  | cons p m=>
   refine⟨h 0 (by simp) (by simp),ih (by simpa using hm) λi hi hj=>?_⟩;have:=h (i+1) (by simpa using hi) (by simpa using hj);simpa using this
def aiz{x:Nd}:∀(l:List Nd) (m:List (V×V)) (i:Nat) (hi:i<l.length),x.op=l[i].op->x.sort=l[i].sort->x.name=l[i].name->bJ (l.set i x) m=bJ l m:=by
 intro l
 induction l with
 | nil=>intro m i hi;simp at hi
 | cons y l ih=>
  intro m i hi h1 h2 a;cases m with
  | nil=>cases i<;>rfl
  | cons p m=>
   cases i with
   | zero=>
    simp only[zf]at h1 h2 a;simp only[List.set_cons_zero];show cB x p.1 p.2++bJ l m=cB y p.1 p.2++bJ l m;simp only[cB,h1,h2,a]
   | succ i=>
    simp only[qe];show cB y p.1 p.2++bJ (l.set i x) m=cB y p.1 p.2++bJ l m;rw[ih m i (by simpa using hi) (by simpa using h1) (by simpa using h2) (by simpa using a)]
def RO.Ξ{h h':Hf}{lo n:K}{v:V}{x:Nd}{p:V×V}(a:RO h lo n v x p){b:K}(e:bA b h h')(h1:p.1=.ns\/p.1.blk.num≠b.num)(h2:p.2=.ns\/p.2.blk.num≠b.num):RO h' lo n v x p:=by
 refine⟨κ.Ξ a.b e h1,κ.Ξ a.k e h2,?_,a.kr,a.vr,a.vk,a.vt,a.kt⟩;rcases a.ko with g | g
 ·exact Or.inl g
 ·rcases h2 with k | k
  ·have:=g.1;rw[k]at this;cases this
  ·exact Or.inr ⟨g.1,by rw[e _ k];exact g.2⟩
def wk(x:Nd)(l:List Int):Nd:=⟨x.op,x.sort,x.name,x.vars,l⟩
def TO.Tm{h h':Hf}{lo n:K}{v:V}{ts:List Nd}{m:List (V×V)}(a:TO h lo n v ts m){i k:Nat}{y:Int}(hi:i<ts.length)(hj:i<m.length)(t:k<ts[i].kids.length)
 (e:bA m[i].2.blk h h')(hs:h' m[i].2.blk=some (.c (dX .i64 (ts[i].kids.set k y)) 3 0)):TO h' lo n v (ts.set i (wk ts[i] (ts[i].kids.set k y))) m:=by
 have d:=a.rows.get i hi hj;have f:m[i].2≠.ns:=by
  intro h;have:=d.k;rw[h]at this;rcases this.2 with g | ⟨⟨b,o,c,g,_⟩,_⟩
  ·have:=g.2;omega
  ·rcases g with g | g
   ·cases g.1
   ·cases g
 have bl:m[i].2.blk.num<n.num:=by
  rcases κ.dT d.k with g | g
  ·exact absurd g f
  ·exact g
 have nv:v=.ns\/v.blk.num≠m[i].2.blk.num:=by
  rcases d.kt with g | g | g
  ·exact absurd g f
  ·exact Or.inl g
  ·exact Or.inr (Ne.symm g)
 refine⟨?_,?_,a.pw,a.ge⟩
 ·rw[j5,aiz (x:=wk ts[i] (ts[i].kids.set k y)) _ _ _ hi rfl rfl rfl];exact κ.Ξ a.sl e nv
 ·refine dw.of (by rw[j5];exact a.rows.len) λj q l=>?_;rw[j5]at q;by_cases r:i=j
  ·subst r;simp only[xk];have p:m[i].2=.su m[i].2.blk 0 ts[i].kids.length 1:=by
    rcases d.ko with g | g
    ·simp[g]at t
    ·exact g.1
   refine⟨κ.Ξ d.b e ?_,?_,Or.inr ⟨by show _=V.su _ 0 (ts[i].kids.set k y).length 1;rw[j5];exact p,hs⟩,d.kr,d.vr,d.vk,d.vt,d.kt⟩
   ·rcases d.vk with g | g | g
    ·exact Or.inl g
    ·exact absurd g f
    ·exact Or.inr g
   ·unfold fh;refine⟨by simp[Cg,wk],Or.inr ⟨⟨m[i].2.blk,0,0,Or.inr (by show _=V.su _ 0 (ts[i].kids.set k y).length 1;rw[j5];exact p),bl⟩,dX .i64 (ts[i].kids.set k y),by simp[iP,hs,O.row],?_⟩⟩;rw[p];exact kC (by simp[Cg,wk])
  ·rw[zi r];have u:=a.rows.get j q l;have pw:=List.pairwise_iff_getElem.1 a.pw;have s:dE m[j].2 m[i].2/\dE m[j].1 m[i].2:=by
    rcases jA i j with g | g
    ·have:=pw i j hj l g;exact⟨this.1.symm,this.2.2.symm⟩
    ·have:=pw j i l hj (by omega);exact⟨this.1,this.2.1⟩
   refine u.Ξ e ?_ ?_
   ·rcases s.2 with g | g | g
    ·exact Or.inl g
    ·exact absurd g f
    ·exact Or.inr g
   ·rcases s.1 with g | g | g
    ·exact Or.inl g
    ·exact absurd g f
    ·exact Or.inr g
end
section
variable {C:Nat->Option aE}{h:Hf}{n:K}{Q:V->Hf->K->Prop}
def lM(g:Int->Int)(x:Nd):Nd:=wk x (x.kids.map g)
def shl(g:Int->Int)(k:Nat)(l:List Int):List Int:=(l.take k).map g++l.drop k
def CF(g:Int->Int)(k:Nat)(l:List Int):(shl g k l).length=l.length:=by simp[shl];omega
def Tn{g:Int->Int}{k:Nat}{l:List Int}(a:k<l.length):(shl g k l)[k]'(by rw[CF];exact a)=l[k]:=by unfold shl;rw[List.getElem_append_right (by simp;omega)];simp[qf (fC a)]
def aiA{g:Int->Int}{k:Nat}{l:List Int}(a:k<l.length):(shl g k l).set k (g l[k])=shl g (k+1) l:=by unfold shl;rw[List.set_append_right _ _ (by simp;omega),gm a,List.map_append,ku];congr 1;rw[ji,ov,qf (fC a),kY,gL a,List.set_cons_zero];rfl
def KA(g:Int->Int)(l:List Int):shl g 0 l=l:=by simp[shl]
def aiB(g:Int->Int)(l:List Int):shl g l.length l=l.map g:=by simp[shl]
structure pE(g:Int->Int)(t0 us:List Nd)(i k:Nat):Prop where
 len:us.length=t0.length
 lo:∀j (h1:j<us.length) (h2:j<t0.length),j<i->us[j]=lM g t0[j]
 at_:∀(h1:i<us.length) (h2:i<t0.length),us[i]=wk t0[i] (shl g k t0[i].kids)
 hi:∀j (h1:j<us.length) (h2:j<t0.length),i<j->us[j]=t0[j]
def pE.start(g:Int->Int)(t0:List Nd):pE g t0 t0 0 0:=⟨rfl,λj _ _ h=>by omega,λ_ _=>by rw[KA];rfl,λ_ _ _ _=>rfl⟩
def pE.set{g:Int->Int}{t0 us:List Nd}{i k:Nat}(c:pE g t0 us i k)(h1:i<us.length)(h2:i<t0.length)(b:k<t0[i].kids.length):pE g t0 (us.set i (wk us[i] (us[i].kids.set k (g t0[i].kids[k])))) i (k+1):=by
 refine⟨by rw[j5];exact c.len,λj g1 a h=>?_,λg1 a=>?_,λj g1 a h=>?_⟩
 ·rw[j5]at g1;rw[zi (by omega)];exact c.lo j g1 a h
 ·rw[xk,c.at_ h1 h2];show wk _ ((shl g k t0[i].kids).set k _)=_;rw[aiA b];rfl
 ·rw[j5]at g1;rw[zi (by omega)];exact c.hi j g1 a h
def pE.next{g:Int->Int}{t0 us:List Nd}{i:Nat}(c:pE g t0 us i (match t0[i]? with | some x=>x.kids.length | none=>0)):pE g t0 us (i+1) 0:=by
 refine⟨c.len,λj g1 a h=>?_,λg1 a=>?_,λj g1 a h=>c.hi j g1 a (by omega)⟩
 ·by_cases hj:j<i
  ·exact c.lo j g1 a hj
  ·have:j=i:=by omega
   subst this;rw[c.at_ g1 a,aX a];show wk _ (shl g t0[j].kids.length t0[j].kids)=_;rw[aiB];rfl
 ·rw[c.hi (i+1) g1 a (by omega),KA];rfl
def pE.done{g:Int->Int}{t0 us:List Nd}{k:Nat}(c:pE g t0 us t0.length k):us=t0.map (lM g):=by
 refine qg (by simp[c.len]) λj h1 h2=>?_;have:j<t0.length:=by simpa using h2
 rw[c.lo j h1 this this];simp
section
variable {h0:Hf}{lo n0:K}{f:Nat}{t0:List Nd}{v:V}{m:List (V×V)}
end
def Bd.sub{ts:List Nd}(hb:Bd ts)(i j:Nat):Bd ((ts.drop i).take j):=by
 have key:∀x∈(ts.drop i).take j,∃k,∃a:k<ts.length,x=ts[k]:=by intro x c;obtain⟨k,a,rfl⟩:=fD (zg (tN c));exact⟨k,a,rfl⟩
 refine⟨by have:=hb.len;simp;omega,λk a=>?_,λk a=>?_,λk a=>?_,λk a=>?_⟩
 all_goals (obtain⟨q,b,e⟩:=key _ (bL a);rw[e])
 ·exact hb.jM q b
 ·exact hb.nm q b
 ·exact hb.vl q b
 ·exact hb.vn q b
def TG(h:Hf)(lo n:K)(v:V)(ts:List Nd):Prop:=∃m,kJ h n v ts m/\(v=.ns\/lo.num<=v.blk.num)/\∀p∈m,(p.1=.ns\/lo.num<=p.1.blk.num)/\(p.2=.ns\/lo.num<=p.2.blk.num)
def TO.tg{h:Hf}{lo n:K}{v:V}{ts:List Nd}{m:List (V×V)}(a:TO h lo n v ts m){b:K}(hl:b.num<=lo.num):TG h b n v ts:=by refine⟨m,a.tm,a.ge.imp id λh=>by omega,λp hp=>?_⟩;obtain⟨j,hj,rfl⟩:=fD hp;have:=a.rows.get j (by rw[←a.rows.len];exact hj) hj;exact⟨this.vr.imp id λh=>by omega,this.kr.imp id λh=>by omega⟩
def TG.t{h:Hf}{lo n:K}{v:V}{ts:List Nd}(a:TG h lo n v ts):bK h n v ts:=⟨a.choose,a.choose_spec.1⟩
def TG.skip{h h':Hf}{lo n n':K}{v:V}{ts:List Nd}(a:TG h lo n v ts)(hs:∀b:K,lo.num<=b.num->b.num<n.num->h' b=h b)(e:n.num<=n'.num):TG h' lo n' v ts:=by
 obtain⟨m,⟨hm,h1,h2⟩,d,c⟩:=a;have key:∀{v:V} {z len:Nat} {cs:List V},κ h n z v len cs->(v=.ns\/lo.num<=v.blk.num)->κ h' n' z v len cs:=by
  intro v z len cs a hl;refine κ.iI a ?_ e;rcases hl with g | g
  ·exact Or.inl g
  ·rcases κ.dT a with k | k
   ·exact Or.inl k
   ·exact Or.inr (hs _ g k)
 exact⟨m,⟨hm,key h1 d,λi hi=>⟨key (h2 i hi).1 (c _ (bL _)).1,key (h2 i hi).2 (c _ (bL _)).2⟩⟩,d,c⟩
def nQ(h:Hf)(n:K)(v:V)(l:List (List Nd)):Prop:=∃hs:List V,hs.length=l.length/\κ h n 1 v l.length hs/\∀i (h1:i<hs.length) (h2:i<l.length),bK h n hs[i] l[i]
def parts(ts:List Nd):List (List Nd):=(bO ts (ts.length - 1)).map λk=>part ts k.toNat
def KB{l:List V}{i:Nat}(h:i<l.length):nth l i=some l[i]:=by
 induction l generalizing i with
 | nil=>simp at h
 | cons a l ih=>cases i with
  | zero=>rfl
  | succ i=>exact ih (by simpa using h)
def bK.one{v:V}{ts:List Nd}(a:bK h n v ts):v.one=true:=a.sl.choose_spec.one
def bK.cells{v:V}{ts:List Nd}(a:bK h n v ts):v.cells=[v]:=a.sl.choose_spec.cells
end
end Go.Ev.X
namespace Go.Ev.X
open Go Go.Ev
def jN(ts:List Nd):List Int->Int->Int
 | [],next=>next
 | k::l,_=>jN ts l (fs ts k.toNat)
def wy{ts:List Nd}:∀{l:List Int} {next:Int},cS (fs ts) l next=true->jN ts l next<=next/\∀k∈l,jN ts l next<=fs ts k.toNat/\0<=k/\k<next:=by
 intro l
 induction l with
 | nil=>intro next _;exact⟨Int.le_refl _,λk b=>by cases b⟩
 | cons a l ih=>
  intro next c;simp only[cS]at c;split at c
  ·cases c
  ·rename_i d;have h1:=ih c;have h2:=fw ts a.toNat;simp only[jN];refine⟨by omega,λk b=>?_⟩;cases b with
   | head=>exact⟨h1.1,by omega,by omega⟩
   | tail _ b=>have:=h1.2 k b;exact⟨this.1,this.2.1,by omega⟩
def To{ts:List Nd}:∀{l:List Int} {next:Int},cS (fs ts) l next=true->∀p:Int,jN ts l next<=p->p<next->∃k∈l,(fs ts k.toNat:Int)<=p/\p<=k:=by
 intro l
 induction l with
 | nil=>intro next _ p h1 h2;simp only[jN]at h1;omega
 | cons a l ih=>
  intro next b p h1 h2;simp only[cS]at b;split at b
  ·cases b
  ·rename_i f;simp only[jN]at h1;by_cases c:(fs ts a.toNat:Int)<=p
   ·exact⟨a,by simp,c,by omega⟩
   ·obtain⟨k,d,e⟩:=ih b p h1 (by omega);exact⟨k,by simp[d],e⟩
def Tp{ts:List Nd}(l:List Int)(k next:Int):jN ts (l++[k]) next=fs ts k.toNat:=by
 induction l generalizing next with
 | nil=>rfl
 | cons a l ih=>exact ih _
def uL{ts:List Nd}{i:Nat}(a:ord ts i=true):(fs ts i:Int)=jN ts (bO ts i).reverse i:=by
 rw[Kr];cases h:bO ts i with
 | nil=>rfl
 | cons k ks=>simp only[a,if_true,List.reverse_cons];rw[Tp]
def Tq{ts:List Nd}:∀(i:Nat),(∀j,j<=i->ord ts j=true)->∀p,fs ts i<=p->p<=i->fs ts i<=fs ts p:=by
 intro i
 induction i using Nat.strongRecOn with
 | _ i ih=>
  intro a p h1 h2;by_cases hp:p=i
  ·rw[hp];exact ξ _
  ·have g:=uL (a i (ξ i));have b:cS (fs ts) (bO ts i).reverse i=true:=a i (ξ i);obtain⟨k,c,d,h⟩:=To b (p:Int) (by omega) (by omega);have e:=(wy b).2 k c;obtain⟨k',rfl⟩:∃k':Nat,k=(k':Int):=⟨k.toNat,by omega⟩;have f:((k':Nat):Int).toNat=k':=rfl;rw[f]at d e;have:=ih k' (by omega) (λj hj=>a j (by omega)) p (by omega) (by omega);omega
def aiC{ts:List Nd}{f:Nat}{g:Nat->Nat}:∀{l:List Int} {next:Int},(f:Int)<=next->(∀k∈l,(f:Int)<=k->k<next->f<=fs ts k.toNat/\g (k - f).toNat=fs ts k.toNat - f)->(f:Int)<=jN ts l next->cS (fs ts) l next=true->cS g (l.map λk=>k - f) (next - f)=true:=by
 intro l
 induction l with
 | nil=>intro next _ _ _ _;rfl
 | cons a l ih=>
  intro next i c hl b;have d:=b;simp only[cS]at b;split at b
  ·cases b
  ·rename_i j;have hle:=(wy d).2 a (by simp);simp only[jN]at hl hle;have m:=fw ts a.toNat;have h1:=wy b;have h2:=c a (by simp) (by omega) (by omega);simp only[eY,cS];rw[Γ (by omega),h2.2];have:=ih (next:=(fs ts a.toNat:Int)) (by omega) (λk e h n=>c k (by simp[e]) h (by omega)) hl b;rw[show((fs ts a.toNat - f:Nat):Int)=(fs ts a.toNat:Int) - f by omega];exact this
def nT{ts:List Nd}{i j:Nat}(hi:i<ts.length)(hj:j<(part ts i).length):(part ts i)[j]=ma (fs ts i) (ts[fs ts i+j]'(by rw[hJ hi]at hj;omega)):=by simp[part]
def FZ{ts:List Nd}{i j:Nat}(hi:i<ts.length)(hj:j<(part ts i).length):bO (part ts i) j=(bO ts (fs ts i+j)).map λk=>k - (fs ts i:Int):=by
 have h:fs ts i+j<ts.length:=by rw[hJ hi]at hj;have:=fw ts i;omega
 rw[jW hj,nT hi hj,jW h];rfl
def CG{ts:List Nd}{i:Nat}(hi:i<ts.length)(d:∀j,j<ts.length->ord ts j=true):∀j,j<(part ts i).length->ord (part ts i) j=true/\fs (part ts i) j=fs ts (fs ts i+j) - fs ts i/\fs ts i<=fs ts (fs ts i+j):=by
 have hle:=fw ts i;intro j
 induction j using Nat.strongRecOn with
 | _ j ih=>
  intro hj;have r:fs ts i+j<=i:=by rw[hJ hi]at hj;omega
  have s:=Tq i (λq v=>d q (by omega)) (fs ts i+j) (by omega) r;have m:=d (fs ts i+j) (by omega);have n:cS (fs ts) (bO ts (fs ts i+j)).reverse (fs ts i+j:Nat)=true:=m;have o:=uL m;have t:=wy n;have p:ord (part ts i) j=true:=by
   unfold ord;rw[FZ hi hj,←List.map_reverse];have:=aiC (ts:=ts) (f:=fs ts i) (g:=fs (part ts i)) (next:=((fs ts i+j:Nat):Int)) (by omega) (λk b h1 h2=>?_) (by rw[←o];omega) n
   ·rw[show(j:Int)=((fs ts i+j:Nat):Int) - (fs ts i:Int) by omega];exact this
   ·have:=ih (k - (fs ts i:Int)).toNat (by omega) (by omega);have e:fs ts i+(k - (fs ts i:Int)).toNat=k.toNat:=by omega
    rw[e]at this;exact⟨this.2.2,this.2.1⟩
  refine⟨p,?_,s⟩;have w:(fs (part ts i) j:Int)=(fs ts (fs ts i+j):Int) - fs ts i:=by
   rw[uL p,o,FZ hi hj,←List.map_reverse];have key:∀(l:List Int) (c:Int),(∀k∈l,(fs ts i:Int)<=k/\k<(fs ts i+j:Nat))->jN (part ts i) (l.map λk=>k - (fs ts i:Int)) (c - fs ts i)=jN ts l c - fs ts i:=by
    intro l
    induction l with
    | nil=>intro c _;rfl
    | cons a l u=>
     intro c h;have x:=h a (by simp);have:=ih (a - (fs ts i:Int)).toNat (by omega) (by omega);have e:fs ts i+(a - (fs ts i:Int)).toNat=a.toNat:=by omega
     rw[e]at this;simp only[eY,jN,this.2.1];rw[←u (fs ts a.toNat) (λk b=>h k (by simp[b]))];congr 1;omega
   have:=key (bO ts (fs ts i+j)).reverse ((fs ts i+j:Nat):Int) (λk b=>by have h1:=t.2 k b;have h2:=fw ts k.toNat;omega)
   rw[←this];congr 1;omega
  omega
def aiD(f g:Nat)(x:Nd)(h:g<=f):ma (f - g) (ma g x)=ma f x:=by simp only[ma,List.map_map];congr 1;apply List.map_congr_left;intro k _;simp only[Function.comp];omega
def aiE{ts:List Nd}{i j:Nat}(hi:i<ts.length)(b:∀j,j<ts.length->ord ts j=true)(hj:j<(part ts i).length):part (part ts i) j=part ts (fs ts i+j):=by
 have h:=CG hi b j hj;have hle:=fw ts (fs ts i+j);have d:=fw (part ts i) j;have a:fs ts i+j<ts.length:=by rw[hJ hi]at hj;have:=fw ts i;omega
 have f:=hJ hi;refine qg ?_ λq h1 h2=>?_
 ·rw[hJ hj,hJ a,h.2.1];omega
 ·rw[nT hj h1];rw[nT a h2];rw[hJ hj]at h1;have c:fs (part ts i) j+q<(part ts i).length:=by omega
  rw[nT hi c];have e:fs ts i+(fs (part ts i) j+q)=fs ts (fs ts i+j)+q:=by rw[h.2.1];omega
  simp only[e];have:=aiD (fs ts (fs ts i+j)) (fs ts i) (ts[fs ts (fs ts i+j)+q]'(by rw[hJ a]at h2;omega)) h.2.2;rw[←h.2.1]at this;exact this
section
section
variable {C:Nat->Option aE}{E:Env}{h:Hf}{n:K}{q:Env->Hf->K->Prop}{l:List AO}{Δ:Nat}{k:V->Hf->K->Prop}
def Ts{e z bytes m len:Nat}{i new cs:List V}{s x:ao}{b:K}{v:V}(hs:ge E s=some (.sl b 0 len len))(f:κ h n z (.sl b 0 len len) len cs)(j:ge E x=some v)(a:κ h n z v m new)(h1:(len+m)*bytes<=1000000000)(h2:bytes<=100000)(o:len+m<=1000000000)(hm:0<m)
 (p:∀v' h' n',dB h' e z v' (len+m) (cs++new)->v'.blk=n->n'.num=n.num+1->Ext h n h' n'->k v' h' n'):SO C (.app e z bytes i false s x) E h n k:=
 mz (λ_ _ _ _=>rfl) λT H g d=>by
  have r:(!(Nat.ble (Nat.mul (Nat.add (V.len (.sl b 0 len len)) m) bytes) 1000000000&&Nat.ble bytes 100000&&Nat.ble (Nat.add (V.len (.sl b 0 len len)) m) 1000000000))=false:=room (l:=len) (m:=m) (bytes:=bytes) h1 h2 o;have hb:Nat.ble (Nat.add len m) len=false:=by rw[jn];simp<;>omega
  refine⟨.su n 0 (len+m) z,H.put (some (.c (cs++new) e 0)) n,n.succ,?_,?_⟩
  ·simp only[simple,g.ge hs,g.ge j,a.elems d,cond_false,tT,r,hb,f.elems d,jD];rfl
  ·rw[fE,d];have hl:(cs++new).length=(len+m)*z:=by rw[jz,f.1,a.1,ie]
   exact p _ _ _ ⟨hl,Or.inr ⟨by omega,n,rfl,eJ _ _ _⟩⟩ rfl (K.eI n) ((Ext.refl h n).new _)
def Ow(h:Hf)(n:K)(e z:Nat)(v:V)(len:Nat)(cs:List V):Prop:=
 (dB h e z v len cs/\(v=.ns\/v.blk.num<n.num))\/(∃b,v=.sl b 0 0 0/\len=0/\cs=[]/\κ h n z v 0 [])
def Ow.sl{e z len:Nat}{v:V}{cs:List V}(a:Ow h n e z v len cs):κ h n z v len cs:=by
 rcases a with a | ⟨b,h1,h2,c,d⟩
 ·exact a.1.sl a.2
 ·rw[h2,c];exact d
def Ow.ext{h':Hf}{n':K}{e z len:Nat}{v:V}{cs:List V}(a:Ow h n e z v len cs)(x:Ext h n h' n'):Ow h' n' e z v len cs:=by
 rcases a with a | ⟨b,h1,h2,c,d⟩
 ·exact Or.inl ⟨a.1.ext (a.2.imp id λg=>x.2 _ g),a.2.imp id λg=>eE g x.1⟩
 ·exact Or.inr ⟨b,h1,h2,c,d.ext x⟩
def aiF{e z bytes m len:Nat}{r new cs:List V}{s x:ao}{o v:V}(hs:ge E s=some o)(d:Ow h n e z o len cs)(i:ge E x=some v)(a:κ h n z v m new)(h1:(len+m)*bytes<=1000000000)(h2:bytes<=100000)(j:len+m<=1000000000)(hm:0<m)(t:aB new=true)
 (p:∀v' h' n',Ow h' n' e z v' (len+m) (cs++new)->v'.blk=n->n'.num=n.num+1->(∀b:K,b.num<n.num->(o=.ns\/b.num≠o.blk.num)->h' b=h b)->k v' h' n'):SO C (.app e z bytes r false s x) E h n k:=by
 rcases d with d | ⟨b,rfl,rfl,rfl,u⟩
 ·refine I6 hs d.1 i a h1 h2 j hm t d.2 λv' h' n' g1 c f g=>p v' h' n' (Or.inl ⟨g1,Or.inr (by rw[c];omega)⟩) c f g
 ·refine Ts hs u i a h1 h2 j hm λv' h' n' g1 c f g=>p v' h' n' (Or.inl ⟨g1,Or.inr (by rw[c];omega)⟩) c f λb hb _=>g.2 b hb
def Tt{c:Made}{P:List PR}{B:List PB}{i:Nat}{d:K}{e z bytes m len:Nat}{f new cs:List V}{s x:ao}{o v:V}(hs:ge E s=some o)(g:Ow (gv h Δ c) n e z o len cs)(j:ge E x=some v)(a:κ (gv h Δ c) n z v m new)(h1:(len+m)*bytes<=1000000000)(h2:bytes<=100000)(p:len+m<=1000000000)(hm:0<m)(r:aB new=true)
 (t:∀v' h' n',Ow h' n' e z v' (len+m) (cs++new)->v'.blk=n->n'.num=n.num+1->(∀b:K,b.num<n.num->(o=.ns\/b.num≠o.blk.num)->h' b=gv h Δ c b)->WD C l (i+1) ((d,v')::E) (ke h h' Δ c) n' c P (⟨i,Δ,h,ke h h' Δ c⟩::B) q):WD C (⟨some d,.app e z bytes f false s x,none,Δ⟩::l) i E h n c P B q:=Ce U (aiF hs g j a h1 h2 p hm r t)
def F0{d:K}{e z bytes m:Nat}{p new:List V}{s x:ao}{b:K}{v:V}(hs:ge E s=some (.sl b 0 0 0))(c:κ h n z (.sl b 0 0 0) 0 [])(f:ge E x=some v)(a:κ h n z v m new)(h1:m*bytes<=1000000000)(h2:bytes<=100000)(A:m<=1000000000)
 (g:∀v' h' n',Ow h' n' e z v' m new->Ext h n h' n'->(v'=.ns\/v'.blk=b\/v'.blk=n)->WO C l ((d,v')::E) h' n' q):WO C (⟨some d,.app e z bytes p false s x,none,Δ⟩::l) E h n q:=by
 by_cases hm:m=0
 ·subst hm;refine bW (mz (λ_ _ _ _=>rfl) λT H i j=>?_);have r:(!(Nat.ble (Nat.mul (Nat.add (V.len (.sl b 0 0 0)) 0) bytes) 1000000000&&Nat.ble bytes 100000&&Nat.ble (Nat.add (V.len (.sl b 0 0 0)) 0) 1000000000))=false:=room (l:=0) (m:=0) (bytes:=bytes) (by simp) h2 (by omega);have t:new=[]:=by have:=a.1;simpa using this
  subst t;refine⟨.sl b 0 0 0,H,n,?_,?_⟩
  ·have hb:Nat.ble (Nat.add 0 0) 0=true:=rfl;have u:Nat.beq 0 0=true:=rfl;simp only[simple,i.ge hs,i.ge f,a.elems j,cond_false,tT,r,hb,u,cond_true]
  ·rw[j];exact g _ _ _ (Or.inr ⟨b,rfl,rfl,rfl,c⟩) (Ext.refl h n) (Or.inr (Or.inl U))
 ·refine bW (Ts hs c f a (by rw[eV];exact h1) h2 (by omega) (by omega) λv' h' n' g1 o B w=>g v' h' n' (Or.inl ⟨by rw[eV]at g1;exact g1,Or.inr (by rw[o];omega)⟩) w (Or.inr (Or.inr o)))
end
attribute [local irreducible] WC WO WD SO μ
variable {C:Nat->Option aE}{h:Hf}{n:K}{Q:V->Hf->K->Prop}
def eC(x y:S):List (S×S)->Option Bool
 | []=>none
 | p::l=>if p.1=x\/p.2=y then some (decide (p.1=x/\p.2=y)) else eC x y l
def hK:List (S×S)->List (S×S)->Bool
 | p::a,q::b=>decide (p.2=q.2)&&hK a b
 | _,_=>true
def dI:List (S×S)->List (S×S)->List (S×S)
 | p::a,q::b=>(p.1,q.1)::dI a b
 | _,_=>[]
def nU(f:List Nd->List Nd->Bool):List (List Nd)->List (List Nd)->Bool
 | a::l,b::m=>f a b&&nU f l m
 | _,_=>true
def iU(x y:Nd):Bool:=!decide (x.op=y.op)||(!decide (x.sort=y.sort)||(!decide (x.kids.length=y.kids.length)||!decide (x.vars.length=y.vars.length)))
def fX:Nat->List Nd->List Nd->List (S×S)->Bool
 | 0,_,_,_=>false
 | m+1,a,b,l=>match a[a.length - 1]?,b[b.length - 1]? with
  | some x,some y=>
   if iU x y then false else
   match (if x.op=3 then eC x.name y.name l.reverse else none) with
   | some r=>r
   | none=>if x.name=y.name then (if hK x.vars y.vars then nU (λp q=>fX m p q (l++dI x.vars y.vars)) (parts a) (parts b) else false) else false
  | _,_=>false
def aiG{l:List (S×S)}{m:Nat}(hm:m<l.length):(l.take (m+1)).reverse=l[m]::(l.take m).reverse:=by rw[gm hm,List.reverse_append];rfl
section
variable {x y:Nd}{vx kx vy ky:V}{bx qQ:K}
end
def aiH{a b:List (S×S)}{i:Nat}(h1:i<a.length)(h2:i<b.length):dI (a.take (i+1)) (b.take (i+1))=dI (a.take i) (b.take i)++[(a[i].1,b[i].1)]:=by
 induction a generalizing b i with
 | nil=>simp at h1
 | cons p a ih=>
  cases b with
  | nil=>simp at h2
  | cons q b=>
   cases i with
   | zero=>simp[dI]
   | succ i=>
    have:=ih (b:=b) (i:=i) (by simpa using h1) (by simpa using h2);simp only[j7,dI,this,j8,oV]
def aiI{a b:List (S×S)}(h:a.length=b.length):(dI a b).length=a.length:=by
 induction a generalizing b with
 | nil=>simp[dI]
 | cons p a ih=>cases b with
  | nil=>simp at h
  | cons q b=>simp only[dI,eh,ih (by simpa using h)]
def aiJ{a b:List (S×S)}{i:Nat}(h1:i<a.length)(h2:i<b.length):hK (a.drop i) (b.drop i)=(decide (a[i].2=b[i].2)&&hK (a.drop (i+1)) (b.drop (i+1))):=by rw[gL h1,gL h2,hK]
section
variable {x y:Nd}{vx kx vy ky:V}{bx qQ:K}{h0:Hf}{n0:K}
end
structure Rt(ts:List Nd):Prop where
 bd:Bd ts
 pos:0<ts.length
 ord:∀j,j<ts.length->ord ts j=true
def Rt.part{ts:List Nd}(r:Rt ts){i:Nat}(hi:i<ts.length):Rt (part ts i):=by
 have c:=hJ hi;have hle:=fw ts i;have key:∀j (hj:j<(X.part ts i).length),∃k,∃a:k<ts.length,(X.part ts i)[j]=ma (fs ts i) ts[k]:=λj hj=>⟨_,_,nT hi hj⟩;refine⟨⟨by have:=r.bd.len;omega,λk a=>?_,λk a=>?_,λk a=>?_,λk a=>?_⟩,by omega,λj hj=>(CG hi r.ord j hj).1⟩
 all_goals (obtain⟨q,b,e⟩:=key k a;rw[e])
 ·simp only[ma,ji];exact r.bd.jM q b
 ·exact r.bd.nm q b
 ·exact r.bd.vl q b
 ·exact r.bd.vn q b
def Am{ts:List Nd}(h:0<ts.length):(parts ts).length=(ts[ts.length - 1]'(by omega)).kids.length:=by simp[parts,jW (show ts.length - 1<ts.length by omega)]
def Rt.parts{ts:List Nd}(r:Rt ts){j:Nat}(hj:j<(parts ts).length):Rt (X.parts ts)[j]/\(X.parts ts)[j].length<ts.length:=by
 have a:=r.pos;have hl:=r.pos;have h1:ts.length - 1<ts.length:=by omega
 unfold X.parts at hj ⊢;rw[ji]at hj;rw[List.getElem_map];have b:=jL (r.ord _ h1) ((bO ts (ts.length - 1))[j]) (bL _);have hi:((bO ts (ts.length - 1))[j]).toNat<ts.length:=by omega
 refine⟨r.part hi,?_⟩;rw[hJ hi];omega
def nQ.ext{h h':Hf}{n n':K}{v:V}{l:List (List Nd)}(a:nQ h n v l)(e:Ext h n h' n'):nQ h' n' v l:=by obtain⟨hs,h1,h2,b⟩:=a;exact⟨hs,h1,h2.ext e,λi g1 c=>(b i g1 c).ext e⟩
def aiK{m:Nat}{a b:List Nd}{l:List (S×S)}(c:a.length - 1<a.length)(hb:b.length - 1<b.length):fX (m+1) a b l=
 if iU a[a.length - 1] b[b.length - 1] then false else
  match (if a[a.length - 1].op=3 then eC a[a.length - 1].name b[b.length - 1].name l.reverse else none) with
  | some r=>r
  | none=>if a[a.length - 1].name=b[b.length - 1].name then (if hK a[a.length - 1].vars b[b.length - 1].vars then nU (λp q=>fX m p q (l++dI a[a.length - 1].vars b[b.length - 1].vars)) (parts a) (parts b) else false) else false:=by
 rw[fX,aX c,aX hb]
end
end Go.Ev.X
namespace Go.Ev.X
open Go Go.Ev
attribute [local irreducible] WC WO WD SO μ
section
variable {C:Nat->Option aE}{h:Hf}{n:K}{Q:V->Hf->K->Prop}
abbrev aiL:S:=[77,97,112,60]
def An(s:S):Nat->Nat->Nat->Nat
 | 0,_,c=>c
 | m+1,i,c=>if i+4<=s.length then An s m (i+1) (if (s.drop i).take 4=aiL then c+1 else c) else c
def calm(s:S):Bool:=decide (An s (s.length+1) 0 0<=4)
def aiM{s:S}(hl:s.length<10000000):∀(m i c:Nat),s.length+1 - i=m->i<=s.length+1->c<=i->Q (.b (decide (An s m i c<=4))) h n->WC C ad4 [(k0,st s),(k3,iN c),(k4,iN i)] h n (blk 0 (sq C ad5 (fq [.t k2] Q))):=by
 intro m
 induction m with
 | zero=>
  intro i c hm hi g a;refine aF ?_;refine φ<|ε<|γ U<|cj U U ⟨by omega,by omega⟩<|γ U<|du U<|po U U<|δ ?_;refine az U (by simp<;>omega)<|bG ?_;have e:decide ((c:Int)<=4)=decide (c<=4):=decide_eq_decide.2 (by omega);rw[An,←e]at a;refine ε<|γ U<|po U U<|γ U<|δ (aj ⟨_,rfl,a⟩)
 | succ m ih=>
  intro i c hm hi g a;refine aF ?_;refine φ<|ε<|γ U<|cj U U ⟨by omega,by omega⟩<|γ U<|du U<|po U U<|δ ?_;by_cases f:i+4<=s.length
  ·rw[An,ab f]at a;refine ax U (by simp<;>omega)<|ay ?_;refine φ<|aA<|ε<|γ U<|γ U<|γ U<|nH U U (show(i:Int)+4=((i+4:Nat):Int) from rfl) ⟨by omega,by omega⟩<|Ci U U U ((show i<=i+4 by omega)) f<|iS (b:=[77,97,112,60]) U U<|δ ?_;have e:i+4 - i=4:=by omega
   rw[e];refine lA U (λd=>?_) (λd=>ay ?_)
   ·simp only[cC]at d;rw[ab d]at a;refine aP<|γ U<|cj U U ⟨by omega,by omega⟩<|γ U<|δ ?_;refine aP<|γ U<|cj U U ⟨by omega,by omega⟩<|γ U<|δ ?_;exact au (ih (i+1) (c+1) (by omega) (by omega) (by omega) a) (Θ.rf U)
   ·simp only[gT]at d;rw[Γ d]at a;refine aP<|γ U<|cj U U ⟨by omega,by omega⟩<|γ U<|δ ?_;exact au (ih (i+1) c (by omega) (by omega) (by omega) a) (Θ.rf U)
  ·rw[An,Γ f]at a;refine az U (by simp<;>omega)<|bG ?_;have e:decide ((c:Int)<=4)=decide (c<=4):=decide_eq_decide.2 (by omega);rw[←e]at a;refine ε<|γ U<|po U U<|γ U<|δ (aj ⟨_,rfl,a⟩)
def CH(a:Cd C){s:S}(hl:s.length<10000000)(c:Q (.b (calm s)) h n):μ C (.f 34 [] []) [st s] h n Q:=by refine μ.go a.f34 U ?_;refine ε<|γ U<|δ ?_;refine ε<|γ U<|δ ?_;refine φ<|ε<|γ U<|δ ?_;exact aA<|au (aiM hl _ 0 0 rfl (by omega) (by omega) c) (Θ.rf U)
def tz(v:S×S):Bool:=!decide (200<v.1.length)&&(!decide (200<v.2.length)&&calm v.2)
def CI(l:List (S×S)):Bool:=l.all tz&&decide (l.length<=8)
def aiN(g:Cd C){v:V}{l:List (S×S)}(hv:dV h n v l)(hlen:l.length<10000000)(j:∀v∈l,v.1.length<10000000/\v.2.length<10000000):∀(m i:Nat),l.length - i=m->i<=l.length->Q (.b ((l.drop i).all tz&&decide (l.length<=8))) h n->WC C Rw [(k0,v),(k3,iN i)] h n (blk 0 (sq C Rx (fq [.t k2] Q))):=by
 intro m
 induction m with
 | zero=>
  intro i hm hi c;have:i=l.length:=by omega
  subst this;refine aF ?_;refine φ<|ε<|γ U<|γ U<|aJ U hv<|aH U U<|δ ?_;refine az U (by simp)<|bG ?_;have e:decide (l.length<=8)=decide ((l.length:Int)<=8):=by simp;omega
  rw[oS,List.all_nil,tP,e]at c;refine ε<|γ U<|aJ U hv<|po U U<|γ U<|δ (aj ⟨_,rfl,c⟩)
 | succ m ih=>
  intro i hm hi c;have a:i<l.length:=by omega
  rw[gL a,List.all_cons]at c;have k:=j _ (bL a);have g1:=hv.name a 1;have d:=hv.sort a 1;generalize hp:l[i]=p at*;refine aF ?_;refine φ<|ε<|γ U<|γ U<|aJ U hv<|aH U U<|δ ?_;refine ax U (by simp<;>omega)<|ay<|φ<|aA ?_;have no:tz p=false->WC C ad6 [] h n (blk 1 (sq C ad7 (sq C (.loop Jq) (blk 0 (sq C Rx (fq [.t k2] Q)))))):=by intro hs;rw[hs]at c;refine ε<|γ U<|δ (aj ⟨_,rfl,c⟩)
  by_cases h1:200<p.1.length
  ·refine ε<|γ U<|γ U<|aV U U hv a<|χ U<|ν U g1<|du U<|dH U U<|γ U<|θ U (by simp<;>omega)<|θ U (by simp<;>omega)<|θ U (by simp<;>omega)<|θ U (by simp<;>omega)<|θ U (by simp<;>omega)<|θ U (by simp<;>omega)<|θ U (by simp<;>omega)<|bh U (by simp<;>omega) U<|γ U<|θ U U<|θ U U<|θ U U<|θ U U<|θ U U<|θ U U<|θ U U<|bh U U U<|δ ?_;exact ax U U<|au (no (by simp[tz,h1])) trivial
  by_cases h2:200<p.2.length
  ·refine ε<|γ U<|γ U<|aV U U hv a<|χ U<|ν U g1<|du U<|dH U U<|γ U<|ζ U (by simp<;>omega)<|γ U<|ζ U (by simp<;>omega)<|γ U<|ζ U (by simp<;>omega)<|aV U U hv a<|ζ U (by simp<;>omega)<|χ U<|ζ U (by simp<;>omega)<|ν U d<|ζ U (by simp<;>omega)<|du U<|ζ U (by simp<;>omega)<|dH U U<|aW U (by simp<;>omega) U<|γ U<|θ U (by simp<;>omega)<|θ U (by simp<;>omega)<|θ U (by simp<;>omega)<|θ U (by simp<;>omega)<|θ U (by simp<;>omega)<|θ U (by simp<;>omega)<|θ U (by simp<;>omega)<|bh U (by simp<;>omega) U<|δ ?_;exact ax U U<|au (no (by simp[tz,h2])) trivial
  refine ε<|γ U<|γ U<|aV U U hv a<|χ U<|ν U g1<|du U<|dH U U<|γ U<|ζ U (by simp<;>omega)<|γ U<|ζ U (by simp<;>omega)<|γ U<|ζ U (by simp<;>omega)<|aV U U hv a<|ζ U (by simp<;>omega)<|χ U<|ζ U (by simp<;>omega)<|ν U d<|ζ U (by simp<;>omega)<|du U<|ζ U (by simp<;>omega)<|dH U U<|aW U (by simp<;>omega) U<|γ U<|ζ U (by simp<;>omega)<|γ U<|ζ U (by simp<;>omega)<|γ U<|ζ U (by simp<;>omega)<|aV U U hv a<|ζ U (by simp<;>omega)<|χ U<|ζ U (by simp<;>omega)<|ν U d<|ζ U (by simp<;>omega)<|ah U U<|CH g k.2<|ζ U (by simp<;>omega)<|cz U<|aW U (by simp<;>omega) U<|δ ?_;cases f:calm p.2 with
  | false=>exact ax U U<|au (no (by simp[tz,f])) trivial
  | true=>
   refine az U U<|ay ?_;have hs:tz p=true:=by simp[tz,f];omega
   rw[hs,tP]at c;refine aP<|γ U<|cj U U ⟨by omega,by omega⟩<|γ U<|δ ?_;exact au (ih (i+1) (by omega) (by omega) c) (Θ.rf U)
def w35(a:Cd C){v:V}{l:List (S×S)}(hv:dV h n v l)(hlen:l.length<10000000)(c:∀v∈l,v.1.length<10000000/\v.2.length<10000000)(d:Q (.b (CI l)) h n):μ C (.f 35 [] []) [v] h n Q:=by refine μ.go a.f35 U ?_;refine ε<|γ U<|δ ?_;refine φ<|ε<|γ U<|δ ?_;exact aA<|au (aiN a hv hlen c _ 0 rfl (by omega) d) (Θ.rf U)
structure A6(ts:List Nd):Prop where
 len:ts.length<10000000
 jM:∀i (hi:i<ts.length),ts[i].kids.length<10000000
 nm:∀i (hi:i<ts.length),ts[i].name.length<10000000/\ts[i].sort.length<10000000
 vl:∀i (hi:i<ts.length),ts[i].vars.length<10000000
 vn:∀i (hi:i<ts.length),∀v∈ts[i].vars,v.1.length<10000000/\v.2.length<10000000
def nW(x:Nd):Bool:=!decide (200<x.name.length)&&(!decide (200<x.sort.length)&&(calm x.name&&(calm x.sort&&(!decide (12<x.kids.length)&&CI x.vars))))
def je(ts:List Nd):Bool:=!(decide (120<ts.length)&&!decide (ts.length=2001))&&ts.all nW
def aiO(e:Cd C){t:V}{ts:List Nd}(ht:bK h n t ts)(hb:A6 ts):∀(m i:Nat),ts.length - i=m->i<=ts.length->Q (.b ((ts.drop i).all nW)) h n->WC C Rk [(k0,t),(k3,iN i)] h n (blk 0 (sq C Rl (fq [.t k2] Q))):=by
 intro m;obtain⟨cs,hs⟩:=ht.sl;have hlen:=hb.len
 induction m with
 | zero=>
  intro i hm hi f;have:i=ts.length:=by omega
  subst this;refine aF ?_;refine φ<|ε<|γ U<|γ U<|aJ U hs<|aH U U<|δ ?_;refine az U (by simp)<|bG ?_;refine ε<|γ U<|δ (aj ⟨_,rfl,by simpa using f⟩)
 | succ m ih=>
  intro i hm hi f;have c:i<ts.length:=by omega
  rw[gL c,List.all_cons]at f;obtain⟨vv,kv,g⟩:=ht.node c;have b1:=hb.nm i c;have b2:=hb.jM i c;have b3:=hb.vl i c;have b4:=hb.vn i c;have ln:=g.name 1;have ls:=g.sort 1;have lk:=g.ks 1;have lv:=g.vs 1;have ik:=g.kids;have k:=g.vars;generalize hp:ts[i]=x at*;refine aF ?_;refine φ<|ε<|γ U<|γ U<|aJ U hs<|aH U U<|δ ?_;refine ax U (by simp<;>omega)<|ay<|φ<|aA ?_;have no:nW x=false->WC C adR [] h n (blk 1 (sq C adS (sq C (.loop Jj) (blk 0 (sq C Rl (fq [.t k2] Q)))))):=by intro hs;rw[hs]at f;refine ε<|γ U<|δ (aj ⟨_,rfl,f⟩)
  by_cases g0:200<x.name.length
  ·refine ε<|γ U<|γ U<|aV U U hs c<|χ U<|ν U ln<|du U<|dH U U<|γ U<|θ U (by simp<;>omega)<|θ U (by simp<;>omega)<|θ U (by simp<;>omega)<|θ U (by simp<;>omega)<|θ U (by simp<;>omega)<|θ U (by simp<;>omega)<|θ U (by simp<;>omega)<|bh U (by simp<;>omega) U<|γ U<|θ U U<|θ U U<|θ U U<|θ U U<|θ U U<|θ U U<|θ U U<|bh U U U<|γ U<|θ U U<|θ U U<|θ U U<|θ U U<|θ U U<|θ U U<|θ U U<|bh U U U<|γ U<|θ U U<|θ U U<|θ U U<|θ U U<|θ U U<|θ U U<|θ U U<|bh U U U<|γ U<|θ U U<|θ U U<|θ U U<|θ U U<|θ U U<|θ U U<|θ U U<|bh U U U<|δ ?_;exact ax U U<|au (no (by simp[nW,g0])) trivial
  by_cases g1:200<x.sort.length
  ·refine ε<|γ U<|γ U<|aV U U hs c<|χ U<|ν U ln<|du U<|dH U U<|γ U<|ζ U (by simp<;>omega)<|γ U<|ζ U (by simp<;>omega)<|γ U<|ζ U (by simp<;>omega)<|aV U U hs c<|ζ U (by simp<;>omega)<|χ U<|ζ U (by simp<;>omega)<|ν U ls<|ζ U (by simp<;>omega)<|du U<|ζ U (by simp<;>omega)<|dH U U<|aW U (by simp<;>omega) U<|γ U<|θ U (by simp<;>omega)<|θ U (by simp<;>omega)<|θ U (by simp<;>omega)<|θ U (by simp<;>omega)<|θ U (by simp<;>omega)<|θ U (by simp<;>omega)<|θ U (by simp<;>omega)<|bh U (by simp<;>omega) U<|γ U<|θ U U<|θ U U<|θ U U<|θ U U<|θ U U<|θ U U<|θ U U<|bh U U U<|γ U<|θ U U<|θ U U<|θ U U<|θ U U<|θ U U<|θ U U<|θ U U<|bh U U U<|γ U<|θ U U<|θ U U<|θ U U<|θ U U<|θ U U<|θ U U<|θ U U<|bh U U U<|δ ?_;exact ax U U<|au (no (by simp[nW,g1])) trivial
  cases a:calm x.name with
  | false=>
   refine ε<|γ U<|γ U<|aV U U hs c<|χ U<|ν U ln<|du U<|dH U U<|γ U<|ζ U (by simp<;>omega)<|γ U<|ζ U (by simp<;>omega)<|γ U<|ζ U (by simp<;>omega)<|aV U U hs c<|ζ U (by simp<;>omega)<|χ U<|ζ U (by simp<;>omega)<|ν U ls<|ζ U (by simp<;>omega)<|du U<|ζ U (by simp<;>omega)<|dH U U<|aW U (by simp<;>omega) U<|γ U<|ζ U (by simp<;>omega)<|γ U<|ζ U (by simp<;>omega)<|γ U<|ζ U (by simp<;>omega)<|aV U U hs c<|ζ U (by simp<;>omega)<|χ U<|ζ U (by simp<;>omega)<|ν U ln<|ζ U (by simp<;>omega)<|ah U U<|CH e b1.1<|ζ U (by simp<;>omega)<|cz U<|aW U (by simp<;>omega) U<|γ U<|θ U (by simp[a])<|θ U (by simp[a])<|θ U (by simp[a])<|θ U (by simp[a])<|θ U (by simp[a])<|θ U (by simp[a])<|θ U (by simp[a])<|bh U (by simp[a]) U<|γ U<|θ U U<|θ U U<|θ U U<|θ U U<|θ U U<|θ U U<|θ U U<|bh U U U<|γ U<|θ U U<|θ U U<|θ U U<|θ U U<|θ U U<|θ U U<|θ U U<|bh U U U<|δ ?_;exact ax U U<|au (no (by simp[nW,a])) trivial
  | true=>
  cases d:calm x.sort with
  | false=>
   refine ε<|γ U<|γ U<|aV U U hs c<|χ U<|ν U ln<|du U<|dH U U<|γ U<|ζ U (by simp<;>omega)<|γ U<|ζ U (by simp<;>omega)<|γ U<|ζ U (by simp<;>omega)<|aV U U hs c<|ζ U (by simp<;>omega)<|χ U<|ζ U (by simp<;>omega)<|ν U ls<|ζ U (by simp<;>omega)<|du U<|ζ U (by simp<;>omega)<|dH U U<|aW U (by simp<;>omega) U<|γ U<|ζ U (by simp<;>omega)<|γ U<|ζ U (by simp<;>omega)<|γ U<|ζ U (by simp<;>omega)<|aV U U hs c<|ζ U (by simp<;>omega)<|χ U<|ζ U (by simp<;>omega)<|ν U ln<|ζ U (by simp<;>omega)<|ah U U<|CH e b1.1<|ζ U (by simp<;>omega)<|cz U<|aW U (by simp<;>omega) U<|γ U<|ζ U (by simp[a])<|γ U<|ζ U (by simp[a])<|γ U<|ζ U (by simp[a])<|aV U U hs c<|ζ U (by simp[a])<|χ U<|ζ U (by simp[a])<|ν U ls<|ζ U (by simp[a])<|ah U U<|CH e b1.2<|ζ U (by simp[a])<|cz U<|aW U (by simp[a]) U<|γ U<|θ U (by simp[d])<|θ U (by simp[d])<|θ U (by simp[d])<|θ U (by simp[d])<|θ U (by simp[d])<|θ U (by simp[d])<|θ U (by simp[d])<|bh U (by simp[d]) U<|γ U<|θ U U<|θ U U<|θ U U<|θ U U<|θ U U<|θ U U<|θ U U<|bh U U U<|δ ?_;exact ax U U<|au (no (by simp[nW,d])) trivial
  | true=>
  by_cases l:12<x.kids.length
  ·refine ε<|γ U<|γ U<|aV U U hs c<|χ U<|ν U ln<|du U<|dH U U<|γ U<|ζ U (by simp<;>omega)<|γ U<|ζ U (by simp<;>omega)<|γ U<|ζ U (by simp<;>omega)<|aV U U hs c<|ζ U (by simp<;>omega)<|χ U<|ζ U (by simp<;>omega)<|ν U ls<|ζ U (by simp<;>omega)<|du U<|ζ U (by simp<;>omega)<|dH U U<|aW U (by simp<;>omega) U<|γ U<|ζ U (by simp<;>omega)<|γ U<|ζ U (by simp<;>omega)<|γ U<|ζ U (by simp<;>omega)<|aV U U hs c<|ζ U (by simp<;>omega)<|χ U<|ζ U (by simp<;>omega)<|ν U ln<|ζ U (by simp<;>omega)<|ah U U<|CH e b1.1<|ζ U (by simp<;>omega)<|cz U<|aW U (by simp<;>omega) U<|γ U<|ζ U (by simp[a])<|γ U<|ζ U (by simp[a])<|γ U<|ζ U (by simp[a])<|aV U U hs c<|ζ U (by simp[a])<|χ U<|ζ U (by simp[a])<|ν U ls<|ζ U (by simp[a])<|ah U U<|CH e b1.2<|ζ U (by simp[a])<|cz U<|aW U (by simp[a]) U<|γ U<|ζ U (by simp[d])<|γ U<|ζ U (by simp[d])<|γ U<|ζ U (by simp[d])<|aV U U hs c<|ζ U (by simp[d])<|χ U<|ζ U (by simp[d])<|ν U lk<|ζ U (by simp[d])<|aJ U ik<|ζ U (by simp[d])<|dH U U<|aW U (by simp[d]) U<|γ U<|θ U (by simp<;>omega)<|θ U (by simp<;>omega)<|θ U (by simp<;>omega)<|θ U (by simp<;>omega)<|θ U (by simp<;>omega)<|θ U (by simp<;>omega)<|θ U (by simp<;>omega)<|bh U (by simp<;>omega) U<|δ ?_;exact ax U U<|au (no (by simp[nW,l])) trivial
  refine ε<|γ U<|γ U<|aV U U hs c<|χ U<|ν U ln<|du U<|dH U U<|γ U<|ζ U (by simp<;>omega)<|γ U<|ζ U (by simp<;>omega)<|γ U<|ζ U (by simp<;>omega)<|aV U U hs c<|ζ U (by simp<;>omega)<|χ U<|ζ U (by simp<;>omega)<|ν U ls<|ζ U (by simp<;>omega)<|du U<|ζ U (by simp<;>omega)<|dH U U<|aW U (by simp<;>omega) U<|γ U<|ζ U (by simp<;>omega)<|γ U<|ζ U (by simp<;>omega)<|γ U<|ζ U (by simp<;>omega)<|aV U U hs c<|ζ U (by simp<;>omega)<|χ U<|ζ U (by simp<;>omega)<|ν U ln<|ζ U (by simp<;>omega)<|ah U U<|CH e b1.1<|ζ U (by simp<;>omega)<|cz U<|aW U (by simp<;>omega) U<|γ U<|ζ U (by simp[a])<|γ U<|ζ U (by simp[a])<|γ U<|ζ U (by simp[a])<|aV U U hs c<|ζ U (by simp[a])<|χ U<|ζ U (by simp[a])<|ν U ls<|ζ U (by simp[a])<|ah U U<|CH e b1.2<|ζ U (by simp[a])<|cz U<|aW U (by simp[a]) U<|γ U<|ζ U (by simp[d])<|γ U<|ζ U (by simp[d])<|γ U<|ζ U (by simp[d])<|aV U U hs c<|ζ U (by simp[d])<|χ U<|ζ U (by simp[d])<|ν U lk<|ζ U (by simp[d])<|aJ U ik<|ζ U (by simp[d])<|dH U U<|aW U (by simp[d]) U<|γ U<|ζ U (by simp<;>omega)<|γ U<|ζ U (by simp<;>omega)<|γ U<|ζ U (by simp<;>omega)<|aV U U hs c<|ζ U (by simp<;>omega)<|χ U<|ζ U (by simp<;>omega)<|ν U lv<|ζ U (by simp<;>omega)<|ah U U<|w35 e k b3 b4<|ζ U (by simp<;>omega)<|cz U<|aW U (by simp<;>omega) U<|δ ?_;cases j:CI x.vars with
  | false=>exact ax U U<|au (no (by simp[nW,j])) trivial
  | true=>
   refine az U U<|ay ?_;have o:nW x=true:=by simp[nW,a,d,j];omega
   rw[o,tP]at f;refine aP<|γ U<|cj U U ⟨by omega,by omega⟩<|γ U<|δ ?_;exact au (ih (i+1) (by omega) (by omega) f) (Θ.rf U)
def w6(c:Cd C){t:V}{ts:List Nd}(ht:bK h n t ts)(hb:A6 ts)(a:Q (.b (je ts)) h n):μ C (.f 6 [] []) [t] h n Q:=by
 refine μ.go c.f6 U ?_;obtain⟨cs,hs⟩:=ht.sl;have hlen:=hb.len;refine ε<|γ U<|δ ?_;have go:je ts=ts.all nW->WC C Ji [(k0,t)] h n (fq [.t k2] Q):=by intro he;rw[he]at a;refine φ<|ε<|γ U<|δ ?_;exact aA<|au (aiO c ht hb _ 0 rfl (by omega) a) (Θ.rf U)
 by_cases h1:120<ts.length
 ·refine φ<|ε<|γ U<|aJ U hs<|dH U U<|γ U<|ζ U (by simp<;>omega)<|γ U<|ζ U (by simp<;>omega)<|aJ U hs<|ζ U (by simp<;>omega)<|fJ U U<|bh U (by simp<;>omega) U<|δ ?_;by_cases h2:ts.length=2001
  ·exact az U (by simp[h2])<|ay<|au (go (by simp[je,h2])) (Θ.rf U)
  ·refine ax U (by simp<;>omega) ?_;have e:je ts=false:=by simp[je,h1,h2]
   rw[e]at a;refine ε<|γ U<|δ (aj ⟨_,rfl,a⟩)
 ·refine φ<|ε<|γ U<|aJ U hs<|dH U U<|γ U<|θ U (by simp<;>omega)<|θ U (by simp<;>omega)<|θ U (by simp<;>omega)<|aW U (by simp<;>omega) U<|δ ?_;exact az U U<|ay<|au (go (by simp[je,h1])) (Θ.rf U)
end
section
variable {C:Nat->Option aE}{h:Hf}{n:K}{Q:V->Hf->K->Prop}
def Yy(a:Cd C){v:V}{l:List (S×S)}(hv:dV h n v l)(hl:l.length<1000000)(b:∀v' h' n',dB h' 37 2 v' l.length (fU l)->Ext h n h' n'->(v'=.ns\/n.num<=v'.blk.num/\v'.blk.num<n'.num)->Q v' h' n'):μ C (.f 46 [] []) [v] h n Q:=by refine μ.go a.f46 U ?_;refine ε<|γ U<|δ ?_;refine ε<|γ U<|Q3 U U hv (by omega) (by omega) (by omega) <| λc d e o3 g i=>γ U<|δ (aj ⟨_,rfl,b c d e o3 g i⟩)
def w47(a:Cd C){v:V}{l:List Int}(hv:fh h n .i64 v l)(hl:l.length<1000000)(b:∀v' h' n',dB h' 3 1 v' l.length (dX .i64 l)->Ext h n h' n'->(v'=.ns\/n.num<=v'.blk.num/\v'.blk.num<n'.num)->Q v' h' n'):μ C (.f 47 [] []) [v] h n Q:=by refine μ.go a.f47 U ?_;refine ε<|γ U<|δ ?_;refine ε<|γ U<|Q3 U U hv (by omega) (by omega) (by omega) <| λc d e o3 g i=>γ U<|δ (aj ⟨_,rfl,b c d e o3 g i⟩)
section
variable {h0:Hf}{n0:K}{t:V}{ts:List Nd}
def aiQ(hC:Cd C)(ht:bK h0 n0 t ts)(hb:Bd ts){Q1:Ex->Env->Hf->K->Prop}
 (hQ:∀vo m h n E',Ext h0 n0 h n->TO h n0 n vo ts m->Θ [(k3,vo)] E'->Q1 .normal E' h n):
 ∀(r i:Nat) (vo:V) (m:List (V×V)) (h:Hf) (n:K),ts.length - i=r->i<=ts.length->TO h n0 n vo (ts.take i) m->Gr h0 n0 h n 35 5 vo i (bJ (ts.take i) m)->WC C Rq [(k0,t),(k3,vo),(k4,iN i)] h n (blk 0 Q1):=by
 have hlen:=hb.len;intro r
 induction r with
 | zero=>
  intro i vo m h n G hi s u;have:i=ts.length:=by omega
  subst this;obtain⟨cs,hs⟩:=(ht.ext u.ext).sl;rw[fO]at s;refine aF ?_;refine φ<|ε<|γ U<|γ U<|aJ U hs<|aH U U<|δ ?_;exact az U (by simp)<|bG (hQ vo m h n _ u.ext s (Θ.rf U))
 | succ r ih=>
  intro i vo m h n G hi s u;have D:i<ts.length:=by omega
  have sk:=ht.ext u.ext;obtain⟨cs,hs⟩:=sk.sl;obtain⟨vv,kv,E⟩:=sk.node D;have aZ:=nO ts[i] (κ.one E.vars) (κ.one E.kids);have eB:=hb.jM i D;have om:=hb.vl i D;refine aF ?_;refine φ<|ε<|γ U<|γ U<|aJ U hs<|aH U U<|δ ?_;refine ax U (by simp<;>omega)<|ay ?_;refine φ<|aA<|ε<|γ U<|γ U<|aV U U hs D<|ν U E.all<|bN <| λh1 n1 dd a1 e1=>aR U U a1 (bS rfl rfl aZ) <| λh2 L b2=>δ ?_;have x2:Ext h n h2 n1:=e1.Ξ b2 (ξ _);have M:=E.vars.ext x2;have N:=E.kids.ext x2;have Yz:bc h2 false 1 (.p n (0+3))=some vv:=cH L rfl _;have O:∀{h' n'},Ext h2 n1 h' n'->bc h' false 1 (.p n (0+4))=some kv:=λe=>cH ((e.2 _ (by omega)).trans L) U _;have KD:=κ.below M (ξ _);have KE:∀{n':K},n1.num<=n'.num->bz n' kv=true:=λe=>κ.below N e;refine eT<|cI U<|aO U Yz KD (κ.dL M)<|ch U U<|Yy hC M (by omega) <| λd P R o3 o v=>cI U<|aO U (O o) (KE o.1) (κ.dL N)<|ch U U<|w47 hC (N.ext o) (by omega) <| λv5 S w o5 B y=>cI U<|fK U U ((B.2 _ (by have:=o.1;omega)).trans ((o.2 _ (by omega)).trans L)) (FV o3.cells o3.one) <| λh4 a4 b4=>cI U<|fK U U a4 (FW o5.cells o5.one) <| λz a6 b6=>df (⟨⟨al (by simp[Nat.testBit]),al (by simp[Nat.testBit]),al (by simp[Nat.testBit]),cT (O (Ext.refl _ _)) (O o),trivial⟩,⟨al (by simp[Nat.testBit]),al (by simp[Nat.testBit]),al (by simp[Nat.testBit]),al (by simp[Nat.testBit]),trivial⟩,trivial⟩) ?_;have o:Ext h2 n1 P R:=o;have B:Ext P R S w:=B;have T:bA n S h4:=b4;have W:bA n h4 z:=b6;have kh:=o.1;have pC:=B.1;have x6:Ext h n z w:=(((x2.trans o).trans B).Ξ T (ξ _)).Ξ W (ξ _);have KF:z n=some (.c (cB ts[i] d v5) 35 0):=a6;have o3:dB P 37 2 d ts[i].vars.length (fU ts[i].vars):=o3;have o5:dB S 3 1 v5 ts[i].kids.length (dX .i64 ts[i].kids):=o5;have Hc:dB z 37 2 d ts[i].vars.length (fU ts[i].vars):=(((o3.ext (v.imp id λh=>B.2 _ (by omega))).ext (v.imp id λh=>T _ (by omega))).ext (v.imp id λh=>W _ (by omega)));have X:dB z 3 1 v5 ts[i].kids.length (dX .i64 ts[i].kids):=(o5.ext (y.imp id λh=>T _ (by omega))).ext (y.imp id λh=>W _ (by omega));have CJ:=nO ts[i] o3.one o5.one;have Y:=u.on x6;refine aP<|γ U<|ν U (bP KF (kC rfl))<|jJ (FX rfl CJ rfl) <| λh7 n7 sG a7 A=>uq U ((Y.on A).own) U (κ.whole (len:=1) (by omega) a7 rfl) (by omega) (by omega) (by omega) (by omega) CJ ((Y.on A).lt) <| λH F n8 o8 I yW J=>γ U<|δ ?_;have Z:=(Y.on A).app o8 I yW J;have YA:Ext h n h7 n7:=x6.trans A;have AW:m.length=i:=by rw[s.rows.len];simp;omega
  have mb:ts.take (i+1)=ts.take i++[ts[i]]:=gm D;have KG:bJ (ts.take i) m++cB ts[i] d v5=bJ (ts.take (i+1)) (m++[(d,v5)]):=by rw[mb,zR (by rw[AW];simp;omega)];rfl
  rw[KG]at Z;have sG:=A.1;have aiR:=u.ext.1;have aiS:n.num<n1.num:=by omega
  have Is:∀b:K,b.num<n.num->(vo=.ns\/b.num≠vo.blk.num)->F b=h b:=λb hb hv=>by rw[J b (by omega) hv,YA.2 b hb]
  have l3:d=.ns\/d.blk.num<R.num:=v.imp id And.right;have l5:v5=.ns\/v5.blk.num<w.num:=y.imp id And.right;have KH:d=.ns\/(vo=.ns\/d.blk.num≠vo.blk.num):=v.imp id λh=>u.lt.imp id λg=>by omega
  have KI:v5=.ns\/(vo=.ns\/v5.blk.num≠vo.blk.num):=y.imp id λh=>u.lt.imp id λg=>by omega
  have f3:d=.ns\/F d.blk=z d.blk:=by
   rcases l3 with l | l
   ·exact Or.inl l
   ·rcases KH with g | g
    ·exact Or.inl g
    ·exact Or.inr (by rw[J _ (by omega) g,A.2 _ (by omega)];rfl)
  have f5:v5=.ns\/F v5.blk=z v5.blk:=by
   rcases l5 with l | l
   ·exact Or.inl l
   ·rcases KI with g | g
    ·exact Or.inl g
    ·exact Or.inr (by rw[J _ (by omega) g,A.2 _ (by omega)];rfl)
  have KJ:v5=.ns\/n0.num<=v5.blk.num:=y.imp id λh=>by omega
  have KK:d=.ns\/n0.num<=d.blk.num:=v.imp id λh=>by omega
  have k8:H=.ns\/w.num<=H.blk.num:=Or.inr (by rw[I];omega);have KL:d=.ns\/d.blk.num<w.num:=l3.imp id λh=>by omega
  have g5:v5=.ns\/n.num<=v5.blk.num:=y.imp id λh=>by omega
  have g3:d=.ns\/n.num<=d.blk.num:=v.imp id λh=>by omega
  have ro:RO F n0 n8 H ts[i] (d,v5):=by
   refine⟨κ.iI (Hc.sl (n:=w) KL) f3 (by omega),κ.iI (X.sl (n:=w) l5) f5 (by omega),?_,KJ,KK,dE.of l3 (y.imp id And.left),dE.of KL k8,dE.of l5 k8⟩;rcases X.su with g | g
   ·exact Or.inl (kW.1 (X.nil g))
   ·rcases f5 with f | f
    ·have:=g.1;rw[f]at this;cases this
    ·exact Or.inr ⟨g.1,by rw[f];exact g.2⟩
  refine aP<|γ U<|cj U U ⟨by omega,by omega⟩<|γ U<|δ ?_;refine au (ih (i+1) H (m++[(d,v5)]) F n8 (by omega) (by omega) ⟨?_,?_,?_,Or.inr (by rw[I];omega)⟩ Z) (Θ.rf U)
  ·have:=Z.sl;have el:(ts.take (i+1)).length=i+1:=by simp;omega
   rw[el];exact this
  ·rw[mb];exact dw.app (dw.mono (λx p a=>a.step Is (by omega) (by rw[I];omega)) s.rows) ⟨ro,trivial⟩
  ·rw[List.pairwise_append];refine⟨s.pw,List.pairwise_singleton _ _,?_⟩;intro p hp q hq;rw[gF]at hq;subst hq;obtain⟨j,hj,rfl⟩:=fD hp;have G:=s.rows.get j (by rw[←s.rows.len];exact hj) hj;have b1:=κ.dT G.b;have b2:=κ.dT G.k;exact⟨dE.of b2 g5,dE.of b1 g5,dE.of b2 g3⟩
end
def w9g(a:Cd C){t:V}{ts:List Nd}(ht:bK h n t ts)(hb:Bd ts)(b:∀vo h' n',Ext h n h' n'->TG h' n n' vo ts->Q vo h' n'):μ C (.f 9 [] []) [t] h n Q:=by refine μ.go a.f9 U ?_;refine ε<|γ U<|δ ?_;refine ε<|γ U<|δ ?_;refine φ<|ε<|γ U<|δ ?_;refine aA<|au (aiQ a ht hb ?_ _ 0 .ns [] h n rfl (by omega) ⟨by simp;exact κ.ns h n 5,trivial,List.Pairwise.nil,Or.inl U⟩ (by simpa[bJ]using Gr.ns (Ext.refl h n))) (Θ.rf U);intro vo m h1 n1 E1 c d s1;refine dO s1 ?_;refine ε<|γ U<|γ U<|δ (aj ⟨_,rfl,b vo h1 n1 c (d.tg (ξ _))⟩)
def w9(a:Cd C){t:V}{ts:List Nd}(ht:bK h n t ts)(hb:Bd ts)(b:∀vo h' n',Ext h n h' n'->bK h' n' vo ts->Q vo h' n'):μ C (.f 9 [] []) [t] h n Q:=
 w9g a ht hb λvo h' n' e g=>b vo h' n' e g.t
end
section
variable {C:Nat->Option aE}{h:Hf}{n:K}{Q:V->Hf->K->Prop}
def aiU(p q:S×S):mq .eql (.agg [(0,.str),(1,.str)]) (.a [st p.1,st p.2]) (.a [st q.1,st q.2])=some (.b (decide (p=q))):=by
 have c:=BU p.1 q.1;have d:=BU p.2 q.2;have e:decide (p=q)=(decide (p.1=q.1)&&decide (p.2=q.2)):=by
  by_cases h:p=q
  ·subst h;simp
  ·have:¬ (p.1=q.1/\p.2=q.2):=λh'=>h (Prod.ext h'.1 h'.2);by_cases h1:p.1=q.1<;>by_cases h2:p.2=q.2<;>simp_all
 rw[e,←c,←d];simp only[mq,kZ,AM,nth,dL];cases (Nat.beq p.1.length q.1.length&&Nat.beq (aT p.1) (aT q.1))<;>cases (Nat.beq p.2.length q.2.length&&Nat.beq (aT p.2) (aT q.2))<;>rfl
section
variable {h0:Hf}{n0:K}{ta tb:V}{a b:List Nd}
end
end
section
variable {C:Nat->Option aE}{h:Hf}{n:K}{Q:V->Hf->K->Prop}
def Ag(n:K)(h H:Hf):Prop:=∀k:K,k.num<n.num->H k=h k
def Ag.refl(n:K)(h:Hf):Ag n h h:=λ_ _=>rfl
def Ag.hp{n:K}{h H:Hf}(a:Ag n h H)(b:K)(o:Option O)(hb:n.num<=b.num):Ag n h (X.hp H b o):=λk c=>by rw[mu _ _ (qo (by omega))];exact a k c
def Ag.ext{n n1 c:K}{h H H':Hf}(a:Ag n h H)(e:Ext H n1 H' c)(f:n.num<=n1.num):Ag n h H':=λk d=>by rw[e.2 k (by omega)];exact a k d
def Ag.Ξ{n b:K}{h H H':Hf}(a:Ag n h H)(e:bA b H H')(d:n.num<=b.num):Ag n h H':=λk c=>by rw[e k (by omega)];exact a k c
def Ag.x{n n':K}{h H:Hf}(a:Ag n h H)(c:n.num<=n'.num):Ext h n H n':=⟨c,a⟩
def Ext.ag{n n':K}{h H:Hf}(a:Ext h n H n'):Ag n h H:=a.2
def CK{h:Hf}{b k:K}{o:Option O}(c:k.num≠b.num):hp h b o k=h k:=mu _ _ (qo c)
section
variable {x y:Nd}{vx kx vy ky:V}{b6 b7:K}{h0:Hf}{n0:K}
end
section
variable {h0:Hf}{n0:K}{ta tb:V}{a b:List Nd}
end
end
section
variable {C:Nat->Option aE}{h:Hf}{n:K}{Q:V->Hf->K->Prop}
def pF(f:Int->Int->Bool):List Int->List Int->Bool
 | a::l,b::m=>f a b&&pF f l m
 | _,_=>true
def rQ(ts us:List Nd):Nat->Nat->Nat->List (S×S)->Bool
 | 0,_,_,_=>false
 | m+1,i,k,l=>match ts[i]?,us[k]? with
  | some x,some y=>
   if iU x y then false else
   match (if x.op=3 then eC x.name y.name l.reverse else none) with
   | some r=>r
   | none=>if x.name=y.name then (if hK x.vars y.vars then pF (λp q=>rQ ts us m p.toNat q.toNat (l++dI x.vars y.vars)) x.kids y.kids else false) else false
  | _,_=>false
def Tu{ts us:List Nd}{m i k:Nat}{l:List (S×S)}(hi:i<ts.length)(a:k<us.length):rQ ts us (m+1) i k l=
 if iU ts[i] us[k] then false else
  match (if ts[i].op=3 then eC ts[i].name us[k].name l.reverse else none) with
  | some r=>r
  | none=>if ts[i].name=us[k].name then (if hK ts[i].vars us[k].vars then pF (λp q=>rQ ts us m p.toNat q.toNat (l++dI ts[i].vars us[k].vars)) ts[i].kids us[k].kids else false) else false:=by
 rw[rQ,aX hi,aX a]
def aiV(j:Cd C){t:V}{l:List (S×S)}(ht:dV h n t l)(hlen:l.length<100000000)
 (m:∀b h' n',Ext h n h' n'->h' b=some (.c [t] 174 0)->b.num<n'.num->n.num<=b.num->Iter C (.f 189 [] [.p b 0]) (λh n=>b.num<n.num/\h b=some (.c [t] 174 0)/\dV h n t l) (uF (λi=>match l[i]? with | some p=>.a [st p.1,st p.2] | none=>.q) l.length)->Q (.f 189 [] [.p b 0]) h' n'):μ C (.f 106 [] []) [t] h n Q:=by
 have h1:=κ.one ht;refine μ.go j.f106 U ?_;refine ε<|eL U (κ.cells ht) (by simp only[aB,h1];rfl) <| λh1 n1 A o r=>γ U<|δ ?_;refine ε<|rD U U<|γ U<|δ (aj ⟨_,rfl,m n h1 n1 r o (by omega) (ξ _) ?_⟩);intro y I D h s B k hS h0;refine μ.go j.f189 U ?_;obtain⟨hb,e,ht⟩:=k _ _ _ h0;refine ε<|ν U (cH e rfl _)<|aJ U ht<|pn U U ⟨by omega,by omega⟩<|γ U<|δ ?_;refine aA ?_;have key:∀(i:Nat) (h:Hf) (n':K),i<=l.length->I (l.length - i) h n'->WC C aeH [(k0,y),(k1,.p n 0),(k3,.i .i64 ((i:Int) - 1))] h n' (blk 0 (fq [] (λv h' n'=>I (uF (λi=>match l[i]? with | some p=>.a [st p.1,st p.2] | none=>.q) l.length).length h' n'\/D h' n'))):=by
  intro i
  induction i with
  | zero=>
   intro h n' hi hI;refine aF ?_;refine φ<|ε<|γ U<|iC U U<|δ ?_;refine az U (by simp)<|bG ⟨_,rfl,?_⟩;rw[nJ];exact Or.inl hI
  | succ i ih=>
   intro h n' hi hI;obtain⟨hb,e,ht⟩:=k _ _ _ hI;have u:((i+1:Nat):Int) - 1=(i:Int):=by omega
   rw[u];have g:i<l.length:=by omega
   refine aF ?_;refine φ<|ε<|γ U<|iC U U<|δ ?_;refine ax U (by simp)<|ay ?_;refine φ<|aA<|ε<|γ U<|γ U<|ν U (cH e rfl _)<|γ U<|aV U U ht g<|ν U (ht.jG g)<|ah U U ?_;have w:l.length - (i+1)<(uF (λi=>match l[i]? with | some p=>.a [st p.1,st p.2] | none=>.q) l.length).length:=by rw[nJ];omega
   have:=hS _ w h n' hI;rw[qD,show l.length - 1 - (l.length - (i+1))=i by omega]at this;simp only[aX g]at this;refine μ.mono this ?_;rintro v x z (⟨rfl,d⟩ | ⟨rfl,d⟩)
   ·refine cz U<|δ<|az U U<|ay ?_;refine aP<|γ U<|pn U U ⟨by omega,by omega⟩<|γ U<|δ ?_;rw[show l.length - (i+1)+1=l.length - i by omega]at d;exact au (ih x z (by omega) d) (Θ.rf U)
   ·refine cz U<|δ<|ax U U<|aj ⟨_,rfl,Or.inr d⟩
 exact au (key l.length h s (by omega) (by rw[kY];exact h0)) (Θ.rf U)
def aiW(e:Cd C){t:V}{l:List (S×S)}(ht:dV h n t l)(hlen:l.length<20000000)
 (a:∀v' h' n',Ext h n h' n'->Ow h' n' 179 2 v' l.length (fU l)->(v'=.ns\/n.num<=v'.blk.num)->Q v' h' n'):μ C (.f 107 [] []) [t] h n Q:=by
 refine μ.go e.f107 U ?_;refine ε<|γ U<|δ ?_;have go:mq .eql (.one .slice) t .ns=some (.b false)->WC C aeu [(k0,t)] h n (fq [.t k2] Q):=by intro hv;refine φ<|ε<|γ U<|lE U U hv<|δ ?_;refine az U U<|ay ?_;refine ε<|jJ U <| λh1 n1 s i d=>γ U<|F0 U (κ.whole (len:=0) (by omega) i rfl) U (ht.ext d) (by omega) (by omega) (by omega) <| λj k m o3 p q=>γ U<|δ ?_;exact aj ⟨_,rfl,a j k m (d.trans p) o3 (q.imp id λh=>by rcases h with h | h<;>rw[h]<;>omega)⟩
 obtain⟨g1,r⟩:=id ht;rcases r with g | ⟨⟨b,o,c,g,_⟩,_⟩
 ·have hl:l=[]:=kW.1 g.2;rw[g.1];refine φ<|ε<|γ U<|lE U U U<|δ ?_;refine ax U U ?_;refine ε<|γ U<|δ ?_;refine aj ⟨_,rfl,a .ns h n (Ext.refl h n) (Or.inl ⟨?_,Or.inl U⟩) (Or.inl U)⟩;rw[hl];exact dB.ns h 179 2
 ·refine au (go ?_) (Θ.rf U);rcases g with g | g
  ·rw[g.1];rfl
  ·rw[g];rfl
end
section
variable {C:Nat->Option aE}{h:Hf}{n:K}{Q:V->Hf->K->Prop}
section
variable {x y:Nd}{vx kx vy ky:V}{fA bx qQ:K}{hs:Hf}{ns:K}
def aiX(M:Cd C){v0 v1 vl:V}{l:List (S×S)}(hl:dV h n vl l)(iF:l.length<20000000)(v:Cl h n fA [.b false] 4)(cx:Cl h n bx (cB x vx kx) 35)(cy:Cl h n qQ (cB y vy ky) 35)(G:Ext hs ns h n)(N:ns.num<=fA.num){Q1:Ex->Env->Hf->K->Prop}
 (O:∀r E' h' n',eC x.name y.name l.reverse=some r->Ext hs ns h' n'->lk E' oK=some (.p fA 0)->Cl h' n' fA [.b r] 4->Q1 .ret E' h' n')
 (qz:eC x.name y.name l.reverse=none->∀E' h' n',Ext h n h' n'->Θ [(k0,v0),(k1,v1),(k4,vl),(oK,.p fA 0),(sx,.p bx 0),(lW,.p qQ 0)] E'->Q1 .normal E' h' n'):
 WC C Ry [(k0,v0),(k1,v1),(k4,vl),(oK,.p fA 0),(sx,.p bx 0),(lW,.p qQ 0)] h n Q1:=by
 refine ε<|γ U<|ah U U<|aiV M hl (by omega) ?_;intro b h4 o x4 P wK Te it;refine δ<|aA ?_;have y4:=x4.1;let I:Nat->Hf->K->Prop:=λj h' n'=>Ext h n h' n'/\(b.num<n'.num/\h' b=some (.c [vl] 174 0))/\eC x.name y.name (l.take (l.length - j)).reverse=eC x.name y.name l.reverse;let D:Ex->Hf->K->Prop:=λex h' n'=>ex=.ret/\∃r,eC x.name y.name l.reverse=some r/\Ext hs ns h' n'/\Cl h' n' fA [.b r] 4;refine tj U it I D ?_ ?_ ?_ ?_ ?_ ?_ ?_ ?_
 ·rintro j h1 n1 h' n' ⟨g1,⟨d,g⟩,f⟩ ex;exact⟨g1.trans ex,⟨eE d ex.1,by rw[ex.2 _ d];exact g⟩,f⟩
 ·rintro j h1 n1 h' ⟨g1,⟨d,g⟩,f⟩ k;exact⟨g1.Ξ k (by omega),⟨d,by rw[k _ (by omega)];exact g⟩,f⟩
 ·rintro j h1 n1 ⟨g1,d,_⟩;exact⟨d.1,d.2,hl.ext g1⟩
 ·intro j hj;rw[qD];rfl
 ·intro h' k;have KM:o.succ.num=o.num+1:=K.eI o;exact⟨(x4.Ξ k (by omega)).succ,⟨by omega,by rw[k _ (by omega)];exact P⟩,by rw[mY,fO]⟩
 ·rintro j hj h1 m1 E1 H ⟨g1,⟨d,g⟩,f⟩ w;have bR:j<l.length:=by rw[nJ]at hj;exact hj
  rw[qD]at w;simp only[jF,kV]at w;subst w;have J:l.length - 1 - j<l.length:=by omega
  rw[aX J];rw[show l.length - j=(l.length - 1 - j)+1 by omega,aiG J,eC]at f;generalize hp:l[l.length - 1 - j]=p at*;refine aP<|bN <| λh5 s pC R z=>aR U U R (bS rfl rfl rfl) <| λT W b6=>δ ⟨rfl,by rw[b6 _ (by omega),z.2 _ H],λm b7=>?_⟩;have A:Cl m s m1 [st p.1,st p.2] 179:=Cl.Ξ ⟨by omega,W⟩ b7 (by omega);have X:Ext h n T s:=(g1.trans z).Ξ b6 (by have:=g1.1;omega);have q:Ext h n m s:=X.Ξ b7 (by omega);have L:=v.ext q;have Y:=cx.ext q;have Z:=cy.ext q;have t:bc m false 1 (.p bx (0+2))=some (st x.name):=Y.ld U _;have B:bc m false 1 (.p qQ (0+2))=some (st y.name):=Z.ld U _;have F:bc m false 1 (.p m1 (0+0*1))=some (st p.1):=A.ld U _;have l1:bc m false 1 (.p m1 (0+1*1))=some (st p.2):=A.ld U _;have rZ:=g1.1;have jK:=v.1;have fin:(p.1=x.name\/p.2=y.name)->∀E,Θ [(oK,.p fA 0),(sx,.p bx 0),(lW,.p qQ 0),(vC,.p m1 0),(Yg,.b true)] E->WC C ael E m s (blk 1 (Nx o (m o) (I (j+1)) D)):=by intro ho E hE;refine dO hE ?_;refine ax U U ?_;rw[ab ho]at f;refine ε<|ν U (bP A.2 rfl)<|χ U<|ν U t<|χ U<|ν U B<|px U<|lE U U (aiU p (x.name,y.name))<|aR U U L.2 U <| λh8 a8 b8=>δ ?_;refine aj ⟨by omega,b8 _ (by omega),rfl,_,f.symm,(G.trans q).Ξ b8 N,⟨L.1,?_⟩⟩;rw[a8];have:decide (p=(x.name,y.name))=decide (p.1=x.name/\p.2=y.name):=decide_eq_decide.2 ⟨λe=>by rw[e];exact⟨rfl,rfl⟩,λe=>Prod.ext e.1 e.2⟩;rw[this]
  refine aA ?_;by_cases a:p.1=x.name
  ·refine ε<|uu (i:=0) U U (by decide)<|ν U F<|χ U<|ν U t<|iS U U<|γ U<|θ U (by simp[a])<|θ U (by simp[a])<|θ U (by simp[a])<|θ U (by simp[a])<|θ U (by simp[a])<|bh U (by simp[a]) U<|δ ?_;exact fin (Or.inl a) _ (Θ.rf U)
  ·by_cases u:p.2=y.name
   ·refine ε<|uu (i:=0) U U (by decide)<|ν U F<|χ U<|ν U t<|iS U U<|γ U<|ζ U (by simp[a])<|uu (i:=1) U U (by decide)<|ζ U (by simp[a])<|ν U l1<|ζ U (by simp[a])<|χ U<|ζ U (by simp[a])<|ν U B<|ζ U (by simp[a])<|iS U U<|aW U (by simp[a]) U<|δ ?_;exact fin (Or.inr u) _ ⟨rfl,rfl,rfl,rfl,by show some (V.b _)=_;simp[u],trivial⟩
   ·refine ε<|uu (i:=0) U U (by decide)<|ν U F<|χ U<|ν U t<|iS U U<|γ U<|ζ U (by simp[a])<|uu (i:=1) U U (by decide)<|ζ U (by simp[a])<|ν U l1<|ζ U (by simp[a])<|χ U<|ζ U (by simp[a])<|ν U B<|ζ U (by simp[a])<|iS U U<|aW U (by simp[a]) U<|δ ?_;rw[Γ (by simp[a,u])]at f;refine az U (by simp[u])<|ay ⟨by omega,rfl,q,⟨by omega,by rw[b7 _ (by omega),b6 _ (by omega),z.2 _ d];exact g⟩,?_⟩;rw[show l.length - (j+1)=l.length - 1 - j by omega];exact f
 ·rintro h' n' mQ ⟨g1,⟨d,g⟩,f⟩;rw[nJ,kY]at f;exact qz f.symm _ _ _ g1 (Θ.rf U)
 ·rintro ex h' n' h2 H ⟨rfl,r,g1,d,g⟩ k;have mH:=G.1;have jK:=v.1;exact O r _ _ _ g1 (d.Ξ k (by omega)) U (g.Ξ k (by omega))
def aiZ{v0 v1:V}{l:List (S×S)}{h0:Hf}{n0:K}(D:dV h0 n0 vx x.vars)(q:dV h0 n0 vy y.vars)(E:x.vars.length=y.vars.length)(NI:x.vars.length<1000)(iF:l.length+1000<20000000)
 (F:Cl h0 n0 fA [.b false] 4)(cx:Cl h0 n0 bx (cB x vx kx) 35)(cy:Cl h0 n0 qQ (cB y vy ky) 35){Q1:Ex->Env->Hf->K->Prop}
 (G:∀h n E',Ext h0 n0 h n->hK x.vars y.vars=false->lk E' oK=some (.p fA 0)->∀h2,bA fA h h2->h2 fA=some (.c [.b false] 4 0)->Q1 .ret E' h2 n)
 (qz:∀vi h n E',Ext h0 n0 h n->hK x.vars y.vars=true->Ow h n 179 2 vi (l.length+x.vars.length) (fU (l++dI x.vars y.vars))->Θ [(k0,v0),(k1,v1),(k4,vi),(oK,.p fA 0),(sx,.p bx 0),(lW,.p qQ 0)] E'->Q1 .normal E' h n):
 ∀(m i:Nat) (vi:V) (h:Hf) (n:K),x.vars.length - i=m->i<=x.vars.length->hK (x.vars.drop i) (y.vars.drop i)=hK x.vars y.vars->Ext h0 n0 h n->Ow h n 179 2 vi (l.length+i) (fU (l++dI (x.vars.take i) (y.vars.take i)))->(vi=.ns\/n0.num<=vi.blk.num)->WC C aem [(k0,v0),(k1,v1),(k4,vi),(oK,.p fA 0),(sx,.p bx 0),(lW,.p qQ 0),(Nu,vx),(Nw,iN x.vars.length),(k92,iN i)] h n (blk 2 Q1):=by
 intro m
 induction m with
 | zero=>
  intro i vi h n hm hi hs he f r;have:i=x.vars.length:=by omega
  subst this;refine aF ?_;refine ε<|aH U U<|δ ?_;refine φ<|az U (by simp)<|bG (qz vi h n _ he ?_ ?_ (Θ.rf U))
  ·rw[←hs,oS];rfl
  ·rw[fO,show y.vars.take x.vars.length=y.vars by rw[E,fO]]at f;exact f
 | succ m ih=>
  intro i vi h n hm hi hs he f r;have g:i<x.vars.length:=by omega
  have a:i<y.vars.length:=by omega
  have s:=D.ext he;rw[aiJ g a]at hs;refine aF ?_;refine ε<|aH U U<|δ ?_;refine φ<|ax U (by simp<;>omega)<|ay ?_;refine φ<|aA<|ε<|γ U<|aV U U s g<|ν U (s.jG g)<|bN <| λh1 n1 dd H I=>γ U<|aR U U H (bS rfl rfl rfl) <| λh2 t b2=>δ ?_;have x2:Ext h n h2 n1:=I.Ξ b2 (ξ _);have d:=he.trans x2;have J:=cy.ext d;have e:=q.ext d;have u:bc h2 false 1 (.p qQ (0+3))=some vy:=J.ld U _;have L:bc h2 false 1 (.p n (0+0))=some (st x.vars[i].1):=cH t rfl _;have M:bc h2 false 1 (.p n (0+1))=some (st x.vars[i].2):=cH t rfl _;have v:bz n1 vy=true:=κ.below e (ξ _);have w:=κ.dL q;have N:=f.ext x2;have auq:=x2.1;have aur:=he.1;refine φ<|eT<|cI U<|aO U M U (iR _ _)<|cI U<|aO U u v w<|aI U<|js U U e a<|cI U<|aO U (e.sort a _) U (iR _ _)<|adr U U<|df (by simp[AG,nE,pS,Nat.testBit]) ?_;by_cases j:x.vars[i].2=y.vars[i].2
  ·refine az U (by simp[j])<|ay ?_;rw[show decide (x.vars[i].2=y.vars[i].2)=true by simp[j],tP]at hs;refine rB<|aI U<|cI U<|aO U L U (iR _ _)<|cI U<|aO U u v w<|aI U<|js U U e a<|cI U<|aO U (e.name a _) U (iR _ _)<|tc U<|th U <| λh3 O kh P z=>Tt U ((show Ow _ O 179 2 vi _ _ from N.ext z)) U (κ.whole (len:=1) (by omega) P rfl) (by omega) (by omega) (by omega) (by omega) U <| λR A B o4 T mQ W=>aI U<|df (⟨⟨al (by simp[Nat.testBit]),trivial⟩,⟨al (by simp[Nat.testBit]),trivial⟩,⟨al (by simp[Nat.testBit]),trivial⟩,trivial⟩) ?_;have o:=d.trans z;have x4:Ext h0 n0 A B:=by
    refine⟨by have:=o.1;omega,λk X=>?_⟩;have:=o.1;exact(W k (by omega) (r.imp id λh=>by omega)).trans (o.2 k X)
   refine aP<|cj U U ⟨by omega,by omega⟩<|γ U<|δ ?_;refine au (ih (i+1) R A B (by omega) (by omega) hs x4 ?_ (Or.inr (by rw[T];have:=o.1;omega))) (Θ.rf U);rw[aiH g a,←ku,QL];exact o4
  ·refine ax U (by simp[j]) ?_;rw[show decide (x.vars[i].2=y.vars[i].2)=false by simp[j],vO]at hs;have Y:=F.ext d;refine ε<|aR U U Y.2 U <| λZ a5 b5=>δ ?_;exact aj (G h2 n1 _ d hs.symm U Z b5 a5)
def ai6{f:Int->Int->Bool}{a b:List Int}{i:Nat}(h1:i<a.length)(h2:i<b.length):pF f (a.drop i) (b.drop i)=(f a[i] b[i]&&pF f (a.drop (i+1)) (b.drop (i+1))):=by rw[gL h1,gL h2,pF]
def ai7{ta tb vi:V}{F:Int->Int->Bool}{h0:Hf}{n0:K}(ix:fh h0 n0 .i64 kx x.kids)(v:fh h0 n0 .i64 ky y.kids)(G:x.kids.length=y.kids.length)(H:x.kids.length<1000000)
 (u:Cl h0 n0 fA [.b false] 4)(cx:Cl h0 n0 bx (cB x vx kx) 35)(cy:Cl h0 n0 qQ (cB y vy ky) 35)
 (ih:∀(j:Nat) (h1:j<x.kids.length) (h2:j<y.kids.length) (h:Hf) (n:K) (Q:V->Hf->K->Prop),Ext h0 n0 h n->(∀h' n',Ext h n h' n'->Q (.b (F x.kids[j] y.kids[j])) h' n')->μ C (.f 48 [] []) [ta,tb,.i .i64 x.kids[j],.i .i64 y.kids[j],vi] h n Q)
 (g:∀h' n',Ext h0 n0 h' n'->∀h2,bA fA h' h2->h2 fA=some (.c [.b (pF F x.kids y.kids)] 4 0)->Q (.b (pF F x.kids y.kids)) h2 n'):
 ∀(r i:Nat) (h:Hf) (n:K),x.kids.length - i=r->i<=x.kids.length->pF F (x.kids.drop i) (y.kids.drop i)=pF F x.kids y.kids->Ext h0 n0 h n->WC C aen [(k0,ta),(k1,tb),(k4,vi),(oK,.p fA 0),(sx,.p bx 0),(lW,.p qQ 0),(QO,iN x.kids.length),(QP,iN i)] h n (blk 4 (sq C aeo (fq [.cell oK false 1] Q))):=by
 intro r
 induction r with
 | zero=>
  intro i h n w hi a he;have:i=x.kids.length:=by omega
  subst this;have q:=u.ext he;refine aF ?_;refine ε<|aH U U<|δ ?_;refine φ<|az U (by simp)<|bG ?_;rw[oS]at a;rw[←a]at g;refine ε<|aR U U q.2 U <| λs e b5=>δ ?_;exact aj ⟨_,jI rfl (cH e rfl _),g h n he s b5 e⟩
 | succ r z=>
  intro i h n w hi a he;have k:i<x.kids.length:=by omega
  have l:i<y.kids.length:=by omega
  rw[ai6 k l]at a;have q:=u.ext he;have A:=cx.ext he;have B:=cy.ext he;have m:=ix.ext he;have o:=v.ext he;have D:bc h false 1 (.p bx (0+4))=some kx:=A.ld U _;have E:bc h false 1 (.p qQ (0+4))=some ky:=B.ld U _;refine aF ?_;refine ε<|aH U U<|δ ?_;refine φ<|ax U (by simp<;>omega)<|ay ?_;refine φ<|aA<|ε<|γ U<|γ U<|δ ?_;refine eT<|aI U<|aI U<|cI U<|aO U D (κ.below m (ξ _)) (κ.dL m)<|aI U<|js U U m k<|aO U (m.get k _) U (gJ _ _)<|cI U<|aO U E (κ.below o (ξ _)) (κ.dL o)<|aI U<|js U U o l<|aO U (o.get l _) U (gJ _ _)<|aI U<|ch U U<|ih i k l h n _ he <| λh1 n1 t=>xX U<|df (by simp[AG,nE,pS,Nat.testBit]) ?_;refine lA U (λd=>?_) (λd=>ay ?_)
  ·have d:F x.kids[i] y.kids[i]=false:=by simpa using d
   rw[d,vO]at a;rw[←a]at g;have f10:=q.ext t;refine ε<|aR U U f10.2 U <| λs e b5=>δ ?_;exact aj ⟨_,jI rfl (cH e rfl _),g _ _ (he.trans t) s b5 e⟩
  ·have d:F x.kids[i] y.kids[i]=true:=by simpa using d
   rw[d,tP]at a;refine aP<|cj U U ⟨by omega,by omega⟩<|γ U<|δ ?_;exact au (z (i+1) h1 n1 (by omega) (by omega) a (he.trans t)) (Θ.rf U)
end
end
section
variable {C:Nat->Option aE}{h:Hf}{n:K}{Q:V->Hf->K->Prop}
def w48(T:Cd C){ts us:List Nd}(M:Rt ts)(rb:Rt us):∀(m i k:Nat) (ta tb vl:V) (l:List (S×S)) (h:Hf) (n:K) (Q:V->Hf->K->Prop),i<m->i<ts.length->k<us.length->bK h n ta ts->bK h n tb us->dV h n vl l->l.length+1000*m<=19000000->(∀h' n',Ext h n h' n'->Q (.b (rQ ts us m i k l)) h' n')->μ C (.f 48 [] []) [ta,tb,iN i,iN k,vl] h n Q:=by
 intro m
 induction m with
 | zero=>intro i k ta tb vl l h n Q hm;omega
 | succ m ih=>
  intro i k ta tb vl l h n Q hm hi D NM NN hl iF d;rw[Tu hi D]at d;have om:=M.bd.vl _ hi;have eB:=M.bd.jM _ hi;have DY:=jL (M.ord i hi);rw[jW hi]at DY;have hky:=FU D (rb.ord k D);have la:=M.bd.len;refine μ.go T.f48 U ?_;refine ε<|bN <| λh0 n0 A8 a0 N=>δ ?_;have W:=NM.ext N;have X:=NN.ext N;have c0:Cl h0 n0 n [.b false] 4:=⟨by omega,a0⟩;obtain⟨cs,hs⟩:=W.sl;obtain⟨Y,Z,s⟩:=W.node hi;obtain⟨BO,wM⟩:=X.sl;obtain⟨vy,ky,g⟩:=X.node D;have o1:=nO ts[i] (κ.one s.vars) (κ.one s.kids);have o2:=nO us[k] (κ.one g.vars) (κ.one g.kids);have be:∀{x:Nd} {v k:V},dV h0 n0 v x.vars->fh h0 n0 .i64 k x.kids->bz n0 (.a (cB x v k))=true:=by intro x v k g1 w;have h1:=κ.below g1 (ξ n0.num);have h2:=κ.below w (ξ n0.num);simp only[bz,cB,gG,h1,h2];rfl
  have ve:∀{x:Nd} {v k:V},dV h0 n0 v x.vars->fh h0 n0 .i64 k x.kids->dK (.a (cB x v k)) (.a (cB x v k))=true:=by intro x v k g1 w;have h1:=κ.dL g1;have h2:=κ.dL w;simp only[dK,cB];exact rC (gJ _ _) (rC (iR _ _) (rC (iR _ _) (rC h1 (rC h2 rfl))))
  have Tv:∀{H:Hf},Ag n0 h0 H->bc H true 5 (.p tb.blk (tb.off+k*5))=some (.a (cB us[k] vy ky)):=λag=>(g.ext (ag.x (ξ _))).all;refine eT<|aI U<|aI U<|js U U hs hi<|aO U s.all (be s.vars s.kids) (ve s.vars s.kids)<|aI U<|aI U<|js U U wM D<|aO U g.all (be g.vars g.kids) (ve g.vars g.kids)<|tf <| λh1 n1 dd a1 e1=>tf <| λh2 z iw a2 e2=>fK U U ((eJ h2 n0 (h1 n0)).trans a1) (bS rfl rfl o1) <| λt a3 b3=>fK U U ((b3 n1 (by omega)).trans ((CK (h:=h2) (b:=n0) (o:=h1 n0) (by omega)).trans a2)) (bS rfl rfl o2) <| λc a4 b4=>df (⟨⟨al (by simp[Nat.testBit]),cT (Tv (((((e1.ag.hp n0 none (ξ _)).ext e2 (by omega)).hp n0 (h1 n0) (ξ _)).hp n1 none (by omega)).hp n0 none (ξ _))) (Tv ((((((e1.ag.hp n0 none (ξ _)).ext e2 (by omega)).hp n0 (h1 n0) (ξ _)).Ξ b3 (ξ _)).hp n1 none (by omega)).hp n0 none (ξ _))),trivial⟩,⟨al (by simp[Nat.testBit]),al (by simp[Nat.testBit]),trivial⟩,trivial⟩) ?_;have wX:bA n0 (hp h2 n0 (h1 n0)) t:=b3;have nX:bA n1 t c:=b4;have ag4:Ag n0 h0 c:=((((e1.ag.hp n0 none (ξ _)).ext e2 (by omega)).hp n0 (h1 n0) (ξ _)).Ξ wX (ξ _)).Ξ nX (by omega);have u:Ext h0 n0 c z:=ag4.x (by omega);have cx:Cl c z n0 (cB ts[i] Y Z) 35:=⟨by omega,(nX n0 (by omega)).trans a3⟩;have cy:Cl c z n1 (cB us[k] vy ky) 35:=⟨by omega,a4⟩;have bx:=s.vars.ext u;have ix:=s.kids.ext u;have qQ:=g.vars.ext u;have iy:=g.kids.ext u;have E:=c0.ext u;have A9:=(hl.ext N).ext u;have x4:Ext h n c z:=N.trans u;generalize hx:ts[i]=x at*;generalize hy:us[k]=y at*;have G:bc c false 1 (.p n0 (0+0))=some (.i .i64 x.op):=cx.ld U _;have YC:bc c false 1 (.p n0 (0+1))=some (st x.sort):=cx.ld U _;have lx2:bc c false 1 (.p n0 (0+2))=some (st x.name):=cx.ld U _;have lx3:bc c false 1 (.p n0 (0+3))=some Y:=cx.ld U _;have lx4:bc c false 1 (.p n0 (0+4))=some Z:=cx.ld U _;have O:bc c false 1 (.p n1 (0+0))=some (.i .i64 y.op):=cy.ld U _;have YD:bc c false 1 (.p n1 (0+1))=some (st y.sort):=cy.ld U _;have ly2:bc c false 1 (.p n1 (0+2))=some (st y.name):=cy.ld U _;have ly3:bc c false 1 (.p n1 (0+3))=some vy:=cy.ld U _;have ly4:bc c false 1 (.p n1 (0+4))=some ky:=cy.ld U _;have no:iU x y=true->WC C aek [(oK,.p n 0)] c z (sq C Jr (fq [.cell oK false 1] Q)):=by intro hu;rw[hu]at d;refine ε<|aR U U E.2 U <| λA a5 b5=>δ ?_;exact aj ⟨_,jI rfl (cH a5 rfl _),d _ _ (x4.Ξ b5 (ξ _))⟩
  by_cases u1:x.op=y.op
  case neg=>
   refine φ<|ε<|χ U<|ν U G<|χ U<|ν U O<|fJ U U<|γ U<|θ U (by simp[u1])<|θ U (by simp[u1])<|θ U (by simp[u1])<|θ U (by simp[u1])<|θ U (by simp[u1])<|bh U (by simp[u1]) U<|γ U<|θ U U<|θ U U<|θ U U<|θ U U<|θ U U<|θ U U<|θ U U<|bh U U U<|γ U<|θ U U<|θ U U<|θ U U<|θ U U<|θ U U<|θ U U<|θ U U<|bh U U U<|δ ?_;exact ax U U<|au (no (by simp[iU,u1])) (Θ.rf U)
  by_cases u2:x.sort=y.sort
  case neg=>
   refine φ<|ε<|χ U<|ν U G<|χ U<|ν U O<|fJ U U<|γ U<|ζ U (by simp[u1])<|χ U<|ζ U (by simp[u1])<|ν U YC<|ζ U (by simp[u1])<|χ U<|ζ U (by simp[u1])<|ν U YD<|ζ U (by simp[u1])<|qy U U<|aW U (by simp[u1]) U<|γ U<|θ U (by simp[u2])<|θ U (by simp[u2])<|θ U (by simp[u2])<|θ U (by simp[u2])<|θ U (by simp[u2])<|θ U (by simp[u2])<|θ U (by simp[u2])<|bh U (by simp[u2]) U<|γ U<|θ U U<|θ U U<|θ U U<|θ U U<|θ U U<|θ U U<|θ U U<|bh U U U<|δ ?_;exact ax U U<|au (no (by simp[iU,u2])) (Θ.rf U)
  by_cases u3:x.kids.length=y.kids.length
  case neg=>
   refine φ<|ε<|χ U<|ν U G<|χ U<|ν U O<|fJ U U<|γ U<|ζ U (by simp[u1])<|χ U<|ζ U (by simp[u1])<|ν U YC<|ζ U (by simp[u1])<|χ U<|ζ U (by simp[u1])<|ν U YD<|ζ U (by simp[u1])<|qy U U<|aW U (by simp[u1]) U<|γ U<|ζ U (by simp[u2])<|χ U<|ζ U (by simp[u2])<|ν U lx4<|ζ U (by simp[u2])<|aJ U ix<|ζ U (by simp[u2])<|χ U<|ζ U (by simp[u2])<|ν U ly4<|ζ U (by simp[u2])<|aJ U iy<|ζ U (by simp[u2])<|fJ U U<|aW U (by simp[u2]) U<|γ U<|θ U (by simp<;>omega)<|θ U (by simp<;>omega)<|θ U (by simp<;>omega)<|θ U (by simp<;>omega)<|θ U (by simp<;>omega)<|θ U (by simp<;>omega)<|θ U (by simp<;>omega)<|bh U (by simp<;>omega) U<|δ ?_;exact ax U U<|au (no (by simp[iU,u3])) (Θ.rf U)
  refine φ<|ε<|χ U<|ν U G<|χ U<|ν U O<|fJ U U<|γ U<|ζ U (by simp[u1])<|χ U<|ζ U (by simp[u1])<|ν U YC<|ζ U (by simp[u1])<|χ U<|ζ U (by simp[u1])<|ν U YD<|ζ U (by simp[u1])<|qy U U<|aW U (by simp[u1]) U<|γ U<|ζ U (by simp[u2])<|χ U<|ζ U (by simp[u2])<|ν U lx4<|ζ U (by simp[u2])<|aJ U ix<|ζ U (by simp[u2])<|χ U<|ζ U (by simp[u2])<|ν U ly4<|ζ U (by simp[u2])<|aJ U iy<|ζ U (by simp[u2])<|fJ U U<|aW U (by simp[u2]) U<|γ U<|ζ U (by simp<;>omega)<|χ U<|ζ U (by simp<;>omega)<|ν U lx3<|ζ U (by simp<;>omega)<|aJ U bx<|ζ U (by simp<;>omega)<|χ U<|ζ U (by simp<;>omega)<|ν U ly3<|ζ U (by simp<;>omega)<|aJ U qQ<|ζ U (by simp<;>omega)<|fJ U U<|aW U (by simp<;>omega) U<|δ ?_;by_cases u4:x.vars.length=y.vars.length
  case neg=>exact ax U (by simp<;>omega)<|au (no (by simp[iU,u4])) (Θ.rf U)
  refine az U (by simp<;>omega)<|ay ?_;have hu:iU x y=false:=by simp[iU,u1,u2,u3,u4]
  rw[hu]at d;simp only[mV,if_false]at d;have rest:∀A P,Ext c z A P->(if x.op=3 then eC x.name y.name l.reverse else none)=none->WC C Fu [(k0,ta),(k1,tb),(k4,vl),(oK,.p n 0),(sx,.p n0 0),(lW,.p n1 0)] A P (fq [.cell oK false 1] Q):=by
   intro A P e gW;rw[gW]at d;simp only at d;have d10:=E.ext e;have dx:=cx.ext e;have dy:=cy.ext e;have mx2:bc A false 1 (.p n0 (0+2))=some (st x.name):=dx.ld U _;have my2:bc A false 1 (.p n1 (0+2))=some (st y.name):=dy.ld U _;refine φ<|ε<|χ U<|ν U mx2<|χ U<|ν U my2<|qy U U<|δ ?_;by_cases iE:x.name=y.name
   case neg=>
    refine ax U (by simp[iE]) ?_;rw[Γ iE]at d;refine ε<|aR U U d10.2 U <| λh6 a6 b6=>δ ?_;exact aj ⟨_,jI rfl (cH a6 rfl _),d _ _ ((x4.trans e).Ξ b6 (ξ _))⟩
   refine az U (by simp[iE])<|ay ?_;rw[ab iE]at d;refine ε<|γ U<|ah U U<|aiW T (A9.ext e) (by omega) <| λv6 h6 n6 e6 o6 p6=>γ U<|δ ?_;have I:=e.trans e6;have f10:=E.ext I;have fx:=cx.ext I;have fy:=cy.ext I;have bx6:=bx.ext I;have by6:=qQ.ext I;have gx3:bc h6 false 1 (.p n0 (0+3))=some Y:=fx.ld U _;have NP:=aiI u4;refine φ<|ε<|χ U<|ν U gx3<|aJ U bx6<|γ U<|δ ?_;have d45:=e.1;refine aA<|au (aiZ (v0:=ta) (v1:=tb) (l:=l) (h0:=A) (n0:=P) (bx.ext e) (qQ.ext e) u4 om (by omega) d10 dx dy ?_ ?_ _ 0 v6 h6 n6 rfl (by omega) (by simp) e6 (by simpa[dI]using o6) p6) (Θ.rf U)
   ·intro J L E9 e9 Ba g9 jK fA sr;refine⟨.b false,jI g9 (cH sr rfl _),?_⟩;have:=d jK L (((x4.trans e).trans e9).Ξ fA (ξ _));rw[Ba]at this;exact this
   ·intro vi J L E9 e9 Ba o9 s9;refine dO s9 ?_;rw[Ba,ab rfl]at d;have B:=e.trans e9;have g10:=E.ext B;have gx:=cx.ext B;have gy:=cy.ext B;have ix9:=ix.ext B;have iy9:=iy.ext B;have iB:dV J L vi (l++dI x.vars y.vars):=by
     have:=o9.sl;unfold dV;rw[jz,NP];exact this
    have gx4:bc J false 1 (.p n0 (0+4))=some Z:=gx.ld U _;refine φ<|ε<|χ U<|ν U gx4<|aJ U ix9<|γ U<|δ ?_;refine aA<|au (ai7 (h0:=J) (n0:=L) (ta:=ta) (tb:=tb) (vi:=vi) (F:=λp q=>rQ ts us m p.toNat q.toNat (l++dI x.vars y.vars)) ix9 iy9 u3 eB g10 gx gy ?_ ?_ _ 0 J L rfl (by omega) (by simp) (Ext.refl _ _)) (Θ.rf U)
    ·intro j j1 j2 h' n' Q' R hq;have hkj:=DY x.kids[j] (bL _);have aus:=hky y.kids[j] (bL _);have r1:x.kids[j]=((x.kids[j].toNat:Nat):Int):=by omega
     have r2:y.kids[j]=((y.kids[j].toNat:Nat):Int):=by omega
     rw[r1,r2];have e09:=(u.trans B).trans R;exact ih x.kids[j].toNat y.kids[j].toNat ta tb vi _ h' n' Q' (by omega) (by omega) (by omega) (W.ext e09) (X.ext e09) (iB.ext R) (by simp only[jz];omega) hq
    ·intro h' n' R h2 b2 a2;exact d _ _ (((x4.trans B).trans R).Ξ b2 (ξ _))
  refine φ<|ε<|χ U<|ν U G<|dD U U<|δ ?_;by_cases t:x.op=3
  ·refine ax U (by simp[t]) ?_;refine au (aiX T (v0:=ta) (v1:=tb) (hs:=h) (ns:=n) A9 (by omega) E cx cy x4 (ξ _) ?_ ?_) (Θ.rf U)
   ·intro r E' h' n' g1 w g3 g4;refine⟨.b r,jI g3 (cH g4.2 rfl _),?_⟩;have:=d _ _ w;rw[ab t,g1]at this;exact this
   ·intro g1 E' h' n' w s1;exact dO s1 (rest h' n' w (by rw[ab t];exact g1))
  ·refine az U (by simp[t])<|ay ?_;exact au (rest c z (Ext.refl _ _) (by rw[Γ t])) (Θ.rf U)
end
section
variable {C:Nat->Option aE}{h:Hf}{n:K}{Q:V->Hf->K->Prop}
def ajc(a:Cd C){s:S}{c:Nat}(b:c<256)(d:Q (.i .i64 (bI c s)) h n):μ C (.f 260 [] []) [st s,.i .u8 (c:Nat)] h n Q:=by
 refine μ.pm a.f260 λH e=>⟨.i .i64 (bI c s),H,n,?_,by rw[e];exact d⟩;show BG [.s s.length (aT s),.i .u8 (.ofNat c)] H n=_;have:Nat.blt c 256=true:=by rw[fF];simpa using b
 simp only[BG,this,cond_true,afd,bI];cases wQ c s 0<;>rfl
def Tz(a:Cd C){s:S}{c:Nat}(b:c<256)(d:Q (.i .i64 (bI c s)) h n):μ C (.f 219 [] []) [st s,.i .u8 (c:Nat)] h n Q:=by refine μ.go a.f219 U ?_;refine ε<|γ U<|δ ?_;refine ε<|γ U<|γ U<|ah U U<|ajc a b<|γ U<|δ (aj ⟨_,rfl,d⟩)
def TA(a:Cd C){s:S}{c:Nat}(b:c<256)(d:Q (.i .i64 (bI c s)) h n):μ C (.f 152 [] []) [st s,.i .u8 (c:Nat)] h n Q:=by refine μ.go a.f152 U ?_;refine ε<|γ U<|δ ?_;refine ε<|γ U<|γ U<|ah U U<|Tz a b<|γ U<|δ (aj ⟨_,rfl,d⟩)
def ajd(c:Cd C){r:Nat}(d:r<=1114111)(e:r<55296\/57344<=r)(a:Q (.b true) h n):μ C (.f 295 [] []) [.i .i32 (r:Nat)] h n Q:=by
 refine μ.go c.f295 U ?_;refine ε<|γ U<|δ ?_;refine φ<|aA ?_;by_cases h1:r<55296
 ·refine ε<|γ U<|po U U<|γ U<|ζ U (by simp<;>omega)<|γ U<|ζ U (by simp<;>omega)<|aH U U<|bh U (by simp<;>omega) U<|γ U<|δ ?_;refine ax U (by simp<;>omega) ?_;refine ε<|γ U<|δ (aj ⟨_,rfl,a⟩)
 ·refine ε<|γ U<|po U U<|γ U<|ζ U (by simp<;>omega)<|γ U<|ζ U (by simp<;>omega)<|aH U U<|bh U (by simp<;>omega) U<|γ U<|δ ?_;refine az U (by simp<;>omega) ?_;refine ε<|γ U<|aH U U<|γ U<|ζ U (by simp<;>omega)<|γ U<|ζ U (by simp<;>omega)<|po U U<|bh U (by simp<;>omega) U<|γ U<|δ ?_;refine ax U (by simp<;>omega) ?_;refine ε<|γ U<|δ (aj ⟨_,rfl,a⟩)
def aje{cs:S}(a:∀c∈cs,c.toNat<128){b:K}{h0:Hf}{n0:K}{Q1:Ex->Env->Hf->K->Prop}(f:n0.num<=b.num)(g:∀E h n,Ext h0 n0 h n->Q1 .normal E h n):∀(m pos:Nat) (h:Hf) (n:K),cs.length - pos=m->pos<=cs.length->h b=some (.it cs.length (aT cs) pos)->Ext h0 n0 h n->∀v,WC C ae2 [(I5,.p b 0),(k0,v)] h n (blk 9 Q1):=by
 intro m
 induction m with
 | zero=>
  intro pos h n hm hp hb e v;refine aF ?_;refine ε<|zX U hb (by omega)<|bU U U<|δ ?_;refine φ ?_;exact az U U<|bG (g _ _ _ e)
 | succ m ih=>
  intro pos h n hm hp hb e v;have d:pos<cs.length:=by omega
  refine aF ?_;refine ε<|Fq U hb (by omega) <| λr w h1 R i b1=>bU U U<|δ ?_;refine φ<|ax U U<|ay<|aA ?_;obtain⟨j,k⟩:=R.lo (a _ (bL d));have l:=a _ (bL d);refine ε<|bU U U<|bU U U<|γ U<|γ U<|δ ?_;refine ε<|γ U<|dD U U<|δ ?_;refine az U (by simp<;>omega)<|ay ?_;exact au (ih (pos+w) h1 n (by omega) (by omega) i (e.Ξ b1 f) v) (Θ.rf U)
def ajf(d:Cd C){cs:S}{r:Nat}(g:∀c∈cs,c.toNat<128)(hlen:4<=cs.length)(pU:cs.length<1000000)(p:r<=1114111)(q:r<55296\/57344<=r)
 (j:∀i:Int,(0<=i↔∃x∈cs,x.toNat=r)->∀h' n',Ext h n h' n'->Q (.i .i64 i) h' n'):μ C (.f 252 [] []) [st cs,.i .i32 (r:Nat)] h n Q:=by
 have s:128<=r->¬ ∃x∈cs,x.toNat=r:=λh ⟨x,k,e⟩=>by have:=g x k;omega
 refine μ.go d.f252 U ?_;refine ε<|γ U<|δ ?_;refine aA ?_;by_cases h1:r<128
 ·refine ε<|γ U<|po U U<|γ U<|ζ U (by simp<;>omega)<|γ U<|ζ U (by simp<;>omega)<|aH U U<|bh U (by simp<;>omega) U<|γ U<|δ ?_;refine ax U (by simp<;>omega) ?_;refine ε<|γ U<|γ U<|nF U ⟨by omega,by omega⟩<|ah U U<|TA d (c:=r) (by omega)<|γ U<|δ (aj ⟨_,rfl,j _ Jx _ _ (Ext.refl _ _)⟩)
 ·refine ε<|γ U<|po U U<|γ U<|ζ U (by simp<;>omega)<|γ U<|ζ U (by simp<;>omega)<|aH U U<|bh U (by simp<;>omega) U<|γ U<|δ ?_;refine az U (by simp<;>omega) ?_;refine ε<|γ U<|dD U U<|γ U<|δ ?_;have neg:(0:Int) <= -1↔∃x∈cs,x.toNat=r:=⟨λh=>by omega,λh=>absurd h (s (by omega))⟩;by_cases h2:r=65533
  ·refine ax U (by simp<;>omega) ?_;refine φ<|ε<|γ U<|Fp U <| λh1 n1 w t u=>δ ?_;refine aA<|au (aje g (h0:=h) (n0:=n) (ξ _) (λE h' n' e=>?_) _ 0 h1 n1 rfl (by omega) t u _) (Θ.rf U);refine ε<|γ U<|δ (aj ⟨_,rfl,j _ neg _ _ e⟩)
  ·refine az U (by simp<;>omega) ?_;refine ε<|γ U<|ah U U<|ajd d p q<|cz U<|γ U<|δ ?_;refine az U U<|ES ?_;refine ε<|γ U<|afc U (by simp only[qU,fF,jn,mX,aD,cC];omega) <| λbs y z v=>γ U<|δ ?_;have m:=v (by omega);refine ε<|γ U<|du U<|py U U ((show((bs.length:Nat):Int) - 1=((bs.length - 1:Nat):Int) by omega)) ⟨by omega,by omega⟩<|γ U<|δ ?_;refine ε<|γ U<|γ U<|δ ?_;refine ε<|γ U<|δ ?_;refine φ<|aA<|aF ?_;have o:bs.length - 1<cs.length:=by omega
   have A:cs[bs.length - 1].toNat≠bs[bs.length - 1].toNat:=by have a:=g _ (bL o);have b:=m _ (bL (l:=bs) (n:=bs.length - 1) (by omega));omega
   refine φ<|ε<|γ U<|γ U<|du U<|aH U U<|δ ?_;refine ax U (by simp<;>omega)<|ay<|aA<|ES ?_;refine φ<|eT<|aI U<|aI U<|I9 U U o<|aI U<|aI U<|I9 U U (by omega)<|QW U U<|df (by simp[AG,nE,pS,Nat.testBit]) ?_;refine ax U (by simp<;>omega) ?_;refine eT<|aI U<|aI U<|Fs U U ((show((bs.length - 1:Nat):Int)+1=((bs.length:Nat):Int) by omega)) ⟨by omega,by omega⟩<|Ja U U U (by omega) (by omega)<|aI U<|aI U<|I9 U U (by omega)<|ch U U<|TA d (by have:=(bs[bs.length - 1]).toNat_lt;omega)<|aI U<|df (by simp[AG,nE,pS,Nat.testBit]) ?_;refine φ<|ε<|γ U<|aH U U<|δ ?_;have hm:bI (bs[bs.length - 1].toNat) ((cs.drop bs.length).take (cs.length - bs.length)) = -1:=afg λ⟨x,k,e⟩=>by have a:=g x (zg (tN k));have b:=m _ (bL (l:=bs) (n:=bs.length - 1) (by omega));omega
   refine ax U (by simp only[hm];rfl) ?_;refine ε<|γ U<|δ (aj ⟨_,rfl,j _ neg _ _ (Ext.refl _ _)⟩)
end
section
variable {C:Nat->Option aE}{h:Hf}{n:K}{Q:V->Hf->K->Prop}
def jO(F:Nat->Bool):List V:=(List.range 256).map λj=>V.b (F j)
def CM(F:Nat->Bool):(jO F).length=256:=by simp[jO]
def ajh{α:Type}(f:α->Bool):∀l:List α,aB (l.map λj=>V.b (f j))=true:=by intro l;induction l<;>simp_all [aB,V.one]
def TB(F:Nat->Bool):aB (jO F)=true:=ajh F _
def aji{α:Type}:∀{l:List α} {i:Nat} (h:i<l.length),nth l i=some l[i]:=by
 intro l
 induction l with
 | nil=>intro i h;simp at h
 | cons a l ih=>
  intro i h;cases i with
  | zero=>rfl
  | succ i=>simpa[nth]using ih (i:=i) (by simpa using h)
def ajj(F:Nat->Bool){j:Nat}(h:j<256):nth (jO F) j=some (.b (F j)):=by rw[aji (by rw[CM];exact h)];simp[jO]
def ajk(F:Nat->Bool)(j:Nat)(b:Bool):(jO F).set j (.b b)=jO λi=>if i=j then b else F i:=by
 apply qg
 ·simp[jO]
 ·intro i h1 h2;simp only[jO,List.getElem_set,List.getElem_map,List.getElem_range];by_cases h:i=j
  ·subst h;simp
  ·rw[Γ (Ne.symm h),Γ h]
def TC(hC:Cd C){m:Nat}(hQ:Q (.b (decide (8<m))) h n):μ C (.f 253 [] []) [iN m] h n Q:=by
 refine μ.go hC.f253 U ?_;refine ε<|γ U<|δ ?_;refine ε<|γ U<|dH U U<|γ U<|δ (aj ⟨_,rfl,?_⟩);have:decide ((8:Int)<(m:Nat))=decide (8<m):=by by_cases h:8<m<;>simp[h]<;>omega
 rw[this];exact hQ
def lN(cs:S)(j:Nat):Bool:=decide (∃x∈cs,x.toNat=j)
def ajl{cs:S}{i:Nat}(hi:i<cs.length)(j:Nat):lN (cs.take (i+1)) j=if j=cs[i].toNat then true else lN (cs.take i) j:=by
 unfold lN;rw[gm hi];by_cases h:j=cs[i].toNat
 ·rw[ab h];simp only[cC];exact⟨cs[i],Bx _ (gF.2 rfl),h.symm⟩
 ·rw[Γ h];congr 1;apply propext;constructor
  ·rintro⟨x,hx,e⟩;rcases eG.1 hx with hx | hx
   ·exact⟨x,hx,e⟩
   ·simp only[gF]at hx;subst hx;exact absurd e.symm h
  ·rintro⟨x,hx,e⟩;exact⟨x,List.mem_append_left _ hx,e⟩
def ajm{cs:S}(jE:∀c∈cs,c.toNat<128)(hl:cs.length<1000000){b:K}{h0:Hf}{n0:K}{Q1:Ex->Env->Hf->K->Prop}(gY:n0.num<=b.num)
 (hQ:∀v E h n,Ext h0 n0 h n->h b=some (.c (jO (lN cs)) 316 0)->Q1 .normal ((k9,v)::(k8,iN cs.length)::(k7,st cs)::(k6,iN cs.length)::(k0,st cs)::(k2,.p b 0)::E) h n):
 ∀(m i:Nat) (h:Hf) (n:K),cs.length - i=m->i<=cs.length->h b=some (.c (jO (lN (cs.take i))) 316 0)->Ext h0 n0 h n->WC C ae3 [(k0,st cs),(k2,.p b 0),(k4,iN i)] h n (blk 0 Q1):=by
 intro m
 induction m with
 | zero=>
  intro i h n hm hi hb e;have:i=cs.length:=by omega
  subst this;rw[fO]at hb;refine aF ?_;refine φ<|ε<|γ U<|γ U<|du U<|aH U U<|δ ?_;exact az U (by simp)<|bG (hQ _ _ _ _ e hb)
 | succ m ih=>
  intro i h n hm hi hb e;have ω:i<cs.length:=by omega
  have hc:=jE _ (bL ω);refine aF ?_;refine φ<|ε<|γ U<|γ U<|du U<|aH U U<|δ ?_;refine ax U (by simp<;>omega)<|ay ?_;refine φ<|aA<|ε<|γ U<|γ U<|zV U U ω<|γ U<|δ ?_;refine φ<|ε<|γ U<|iC U U<|δ ?_;refine az U (by simp<;>omega)<|ay ?_;have hs:lT (jO (lN (cs.take i))) 0 (0+cs[i].toNat*1) 1 (.b true)=some (jO (lN (cs.take (i+1)))):=by rw[show jO (lN (cs.take (i+1)))=(jO (lN (cs.take i))).set cs[i].toNat (.b true) from by rw[ajk];congr 1;funext j;exact ajl ω j];exact mB rfl rfl (by rw[show 0+cs[i].toNat*1=cs[i].toNat by omega];exact Fm _ (by rw[CM];omega))
  refine aP<|γ U<|uu U U (by omega)<|aR U U hb hs <| λh1 a1 b1=>δ ?_;refine aP<|γ U<|cj U U ⟨by omega,by omega⟩<|γ U<|δ ?_;exact au (ih (i+1) h1 n (by omega) (by omega) a1 (e.Ξ b1 gY)) (Θ.rf U)
def ajn{E:Env}{h:Hf}{k k':K}{agg:Bool}{sz:Nat}{p v v':V}(h1:lk E k=some p)(h2:bc h agg sz p=some v)(a:lk E k'=some v'):
 kA [.cell k agg sz,.t k'] E h=some (.u [v,v']):=by
 simp only[kA,qm,sW,h1,h2,a]
set_option maxRecDepth 100000 in
theorem ajo(hC:Cd C){cs:S}(jE:∀c∈cs,c.toNat<128)(hl:cs.length<1000000)(hQ:∀h' n',Ext h n h' n'->Q (.u [.a (jO (lN cs)),.b true]) h' n'):μ C (.f 254 [] []) [st cs] h n Q:=by refine μ.go hC.f254 U ?_;refine ε<|bN <| λh1 n1 dd a1 e1=>γ U<|δ ?_;refine φ<|ε<|γ U<|δ ?_;have D2:h1 n=some (.c (jO (lN (cs.take 0))) 316 0):=a1;refine aA<|au (ajm jE hl (h0:=h) (n0:=n) (ξ _) (λv E h' n' e a=>?_) _ 0 h1 n1 rfl (by omega) D2 e1) (Θ.rf U);have NQ:∀{yO:Hf},yO n=some (.c (jO (lN cs)) 316 0)->bc yO true 256 (.p n 0)=some (.a (jO (lN cs))):=λa=>bP a (kC (CM _));refine ε<|ν U (NQ a)<|aR U U (a) (bS (CM _) U (TB _)) <| λh2 a2 b2=>γ U<|δ ?_;exact aj ⟨_,ajn rfl (NQ a2) U,hQ _ _ (e.Ξ b2 (ξ _))⟩
def ajp(hC:Cd C){b:K}{F:Nat->Bool}(hb:h b=some (.c (jO F) 316 0)){c:UInt8}(hQ:Q (.b (F c.toNat)) h n):μ C (.f 255 [] []) [.p b 0,.i .u8 (c.toNat:Nat)] h n Q:=by have hc:=c.toNat_lt;refine μ.go hC.f255 U ?_;refine ε<|γ U<|δ ?_;refine ε<|γ U<|γ U<|Fj U<|uu U U (by omega)<|ν U (cH hb (o:=0+c.toNat*1) (by rw[show 0+c.toNat*1=c.toNat by omega];exact ajj F hc) _)<|γ U<|δ (aj ⟨_,rfl,hQ⟩)
def tC(s cs:S):Prop:=∃c∈s,∃x∈cs,x.toNat=c.toNat
section
variable {s cs:S}(jE:∀c∈cs,c.toNat<128)(hl:s.length<1000000){h0:Hf}{n0:K}(hQ:∀i:Int,(0<=i↔tC s cs)->∀h' n',Ext h0 n0 h' n'->Q (.i .i64 i) h' n')
include jE hl hQ in
theorem ajq (hC:Cd C) {b:K} (gY:n0.num<=b.num) {Q1:Ex->Env->Hf->K->Prop} (He:∀i:Int,(0<=i↔tC s cs)->∀E h' n',Ext h0 n0 h' n'->Q1 .ret ((k4,.i .i64 i)::E) h' n') (D3:¬ tC s cs->∀E h' n',Ext h0 n0 h' n'->Q1 .normal E h' n'):
 ∀(m i:Nat) (h:Hf) (n:K),s.length - i=m->i<=s.length->h b=some (.c (jO (lN cs)) 316 0)->Ext h0 n0 h n->(∀j (hj:j<s.length),j<i->lN cs s[j].toNat=false)->WC C aeI [(k0,st s),(k6,.p b 0),(k8,iN i)] h n (blk 0 Q1):=by
 intro m
 induction m with
 | zero=>
  intro i h n hm hi hb e gW;refine aF ?_;refine φ<|ε<|γ U<|γ U<|du U<|aH U U<|δ ?_;refine az U (by simp<;>omega)<|bG (D3 (λ⟨c,hc,hx⟩=>?_) _ _ _ e);obtain⟨j,hj,rfl⟩:=fD hc;have:=gW j hj (by omega);simp only[lN,gT]at this;exact this hx
 | succ m ih=>
  intro i h n hm hi hb e gW;have ω:i<s.length:=by omega
  refine aF ?_;refine φ<|ε<|γ U<|γ U<|du U<|aH U U<|δ ?_;refine ax U (by simp<;>omega)<|ay ?_;refine φ<|aA<|ε<|γ U<|γ U<|zV U U (ω)<|ah U U<|ajp hC hb<|δ ?_;refine lA U (λhx=>?_) (λhx=>ay ?_)
  ·simp only[lN,cC]at hx;refine ε<|γ U<|γ U<|δ (aj (He _ ⟨λ_=>⟨_,bL ω,hx⟩,λ_=>by omega⟩ _ _ _ e))
  ·refine aP<|γ U<|cj U U ⟨by omega,by omega⟩<|γ U<|δ ?_;refine au (ih (i+1) h n (by omega) (by omega) hb e (λj hj A0=>?_)) (Θ.rf U);by_cases h:j=i
   ·subst h;exact hx
   ·exact gW j hj (by omega)
include jE hl hQ in
theorem ajr (hC:Cd C) {b:K} (gY:n0.num<=b.num) (rO:4<=cs.length) (gh:cs.length<1000000) {Q1:Ex->Env->Hf->K->Prop} (He:∀i:Int,(0<=i↔tC s cs)->∀E h' n',Ext h0 n0 h' n'->Q1 .ret ((k4,.i .i64 i)::E) h' n') (D3:¬ tC s cs->∀E h' n',Ext h0 n0 h' n'->Q1 .normal E h' n'):
 ∀(m i:Nat) (h:Hf) (n:K),s.length - i<=m->i<=s.length->h b=some (.it s.length (aT s) i)->b.num<n.num->Ext h0 n0 h n->(∀j (hj:j<s.length),j<i->∀x∈cs,x.toNat≠s[j].toNat)->WC C aeJ [(k1,st cs),(Yf,.p b 0)] h n (blk 2 Q1):=by
 intro m
 induction m with
 | zero=>
  intro i h n hm hi hb eg e gW;refine aF ?_;refine ε<|zX U (hb) (by omega)<|bU U U<|δ ?_;refine φ<|az U U<|bG (D3 (λ⟨c,hc,x,hx,he⟩=>?_) _ _ _ e);obtain⟨j,hj,rfl⟩:=fD hc;exact gW j hj (by omega) x hx he
 | succ m ih=>
  intro i h n hm hi hb eg e gW;refine aF ?_;by_cases ω:i<s.length
  ·refine ε<|Fq U (hb) (by omega) <| λr w h1 R a1 b1=>bU U U<|δ ?_;refine φ<|ax U U<|ay<|aA ?_;have hrk:r<=1114111/\(r<55296\/57344<=r):=by
    by_cases hb:s[i].toNat<128
    ·have:=(R.lo hb).1;omega
    ·exact(R.hi (by omega)).2
   have e1:=e.Ξ b1 gY;refine ε<|bU U U<|bU U U<|γ U<|γ U<|δ ?_;refine ε<|γ U<|γ U<|ah U U<|ajf hC jE rO gh hrk.1 hrk.2 <| λiv hiv h2 n2 e2=>iC U U<|δ ?_;refine lA U (λhx=>?_) (λhx=>ay ?_)
   ·simp only[cC]at hx;refine ε<|γ U<|γ U<|δ ?_;refine aj (He _ ⟨λ_=>?_,λ_=>by omega⟩ _ _ _ (e1.trans e2));obtain⟨x,hx,he⟩:=hiv.1 hx;have aut:=jE x hx;have aju:s[i].toNat<128:=by
     by_cases hb:s[i].toNat<128
     ·exact hb
     ·have:=(R.hi (by omega)).1;omega
    exact⟨_,bL ω,x,hx,by have:=(R.lo aju).1;omega⟩
   ·simp only[gT]at hx;have ajv:b.num<n.num:=eg;refine au (ih (i+w) h2 n2 (by have:=R.one;omega) R.le (by rw[e2.2 _ ajv];exact a1) (by have:=e2.1;omega) (e1.trans e2) (λj hj A0 x YE he=>?_)) (Θ.rf U);by_cases yN:j<i
    ·exact gW j hj yN x YE he
    ·by_cases hb:s[i].toNat<128
     ·obtain⟨er,ew⟩:=R.lo hb;have:j=i:=by omega
      subst this;exact hx (hiv.2 ⟨x,YE,by omega⟩)
     ·have:=R.all (by omega) j hj (by omega) A0;have:=jE x YE;omega
  ·refine ε<|zX U (hb) (by omega)<|bU U U<|δ ?_;refine φ<|az U U<|bG (D3 (λ⟨c,hc,x,hx,he⟩=>?_) _ _ _ e);obtain⟨j,hj,rfl⟩:=fD hc;exact gW j hj (by omega) x hx he
end
set_option maxRecDepth 100000 in
theorem ajw(hC:Cd C){s cs:S}(hs:s≠[])(hl:s.length<1000000)(jE:∀c∈cs,c.toNat<128)(rO:4<=cs.length)(gh:cs.length<1000000)
 (hQ:∀i:Int,(0<=i↔tC s cs)->∀h' n',Ext h n h' n'->Q (.i .i64 i) h' n'):μ C (.f 190 [] []) [st s,st cs] h n Q:=by
 have aG:cs≠[]:=λe=>by rw[e]at rO;simp at rO
 have gW:¬ tC s cs->((0:Int) <= -1↔tC s cs):=λh=>⟨λe=>by omega,λe=>absurd e h⟩;refine μ.go hC.f190 U ?_;refine ε<|γ U<|δ ?_;refine φ<|ε<|γ U<|iS (b:=[]) U U<|δ ?_;refine az U (by simpa using aG)<|ay ?_;refine φ<|ε<|γ U<|du U<|dD U U<|δ ?_;refine az U (by simp<;>omega)<|ay ?_;by_cases h8:8<s.length
 ·refine φ<|ε<|γ U<|du U<|ah U U<|TC hC<|δ ?_;refine ax U (by simp<;>omega) ?_;refine ε<|γ U<|ah U U<|ajo hC jE gh <| λh1 n1 e1=>γ U<|bU U U<|bU U U<|bN <| λh2 n2 iw a2 e2=>aR U U a2 (bS (CM _) U (TB _)) <| λh3 a3 b3=>γ U<|δ ?_;refine ε<|γ U<|δ ?_;refine ax U U ?_;refine φ<|ε<|γ U<|δ ?_;have e3:Ext h n h3 n2:=(e1.trans e2).Ξ b3 (by have:=e1.1;omega);refine aA<|au (ajq jE hl hQ hC (b:=n1) (by have:=e1.1;omega) (λi hi E h' n' e=>⟨_,rfl,hQ i hi h' n' e⟩) (λmH E h' n' e=>?_) _ 0 h3 n2 rfl (by omega) a3 e3 (λj hj h=>by omega)) (Θ.rf U);refine ε<|γ U<|δ (aj ⟨_,rfl,hQ _ (gW mH) _ _ e⟩)
 ·refine φ<|ε<|γ U<|du U<|ah U U<|TC hC<|δ ?_;refine az U (by simp<;>omega)<|ay ?_;refine φ<|ε<|γ U<|Fp U <| λh1 n1 dd a1 e1=>δ ?_;refine aA<|au (ajr jE hl hQ hC (b:=n) (ξ _) rO gh (λi hi E h' n' e=>⟨_,rfl,hQ i hi h' n' e⟩) (λmH E h' n' e=>?_) _ 0 h1 n1 (ξ _) (by omega) a1 (by omega) e1 (λj hj h=>by omega)) (Θ.rf U);refine ε<|γ U<|δ (aj ⟨_,rfl,hQ _ (gW mH) _ _ e⟩)
def ajx(hC:Cd C){s cs:S}(hs:s≠[])(hl:s.length<1000000)(jE:∀c∈cs,c.toNat<128)(rO:4<=cs.length)(gh:cs.length<1000000)
 (hQ:∀b:Bool,(b=true↔tC s cs)->∀h' n',Ext h n h' n'->Q (.b b) h' n'):μ C (.f 108 [] []) [st s,st cs] h n Q:=by
 refine μ.go hC.f108 U ?_;refine ε<|γ U<|δ ?_;refine ε<|γ U<|γ U<|ah U U<|ajw hC hs hl jE rO gh <| λi hi h1 n1 e1=>iC U U<|γ U<|δ (aj ⟨_,rfl,hQ _ (by simpa using hi) _ _ e1⟩)
def ajy(s:S):s.all yg=true↔¬ tC s [32,10,40,41,123,125]:=by
 rw[kX];constructor
 ·rintro h ⟨c,hc,x,hx,e⟩;have:=h c hc;simp only[yg,qd,xn,gT]at this;simp only[cD,tO,or_false]at hx;rcases hx with rfl | rfl | rfl | rfl | rfl | rfl<;>simp at e<;>omega
 ·intro h c hc;simp only[yg,qd,xn,gT];refine⟨⟨⟨⟨⟨?_,?_⟩,?_⟩,?_⟩,?_⟩,?_⟩<;>intro e<;>apply h
  ·exact⟨c,hc,32,by simp,by rw[e];rfl⟩
  ·exact⟨c,hc,10,by simp,by rw[e];rfl⟩
  ·exact⟨c,hc,40,by simp,by rw[e];rfl⟩
  ·exact⟨c,hc,41,by simp,by rw[e];rfl⟩
  ·exact⟨c,hc,123,by simp,by rw[e];rfl⟩
  ·exact⟨c,hc,125,by simp,by rw[e];rfl⟩
def ajz:∀c∈([32,10,40,41,123,125]:S),c.toNat<128:=by intro c hc;simp only[cD,tO,or_false]at hc;rcases hc with rfl | rfl | rfl | rfl | rfl | rfl<;>decide
def YF(hC:Cd C){s:S}(hl:s.length<10000000)(hQ:∀h' n',Ext h n h' n'->Q (.b (iH s)) h' n'):μ C (.f 50 [] []) [st s] h n Q:=by
 refine μ.go hC.f50 U ?_;refine ε<|γ U<|δ ?_;unfold iH at hQ;by_cases h1:s=[]
 ·subst h1;refine ε<|γ U<|qy (b:=[]) U U<|γ U<|θ U (by simp)<|θ U (by simp)<|θ U (by simp)<|aW U (by simp) U<|γ U<|θ U U<|θ U U<|θ U U<|aW U U U<|γ U<|δ (aj ⟨_,rfl,hQ _ _ (Ext.refl _ _)⟩)
 ·have h0:s.length≠0:=λe=>h1 (List.eq_nil_of_length_eq_zero e);by_cases h2:200<s.length
  ·refine ε<|γ U<|qy (b:=[]) U U<|γ U<|ζ U (by simp[h1])<|γ U<|ζ U (by simp[h1])<|du U<|ζ U (by simp[h1])<|po U U<|bh U (by simp[h1]) U<|γ U<|θ U (by simp<;>omega)<|θ U (by simp<;>omega)<|θ U (by simp<;>omega)<|aW U (by simp<;>omega) U<|γ U<|δ (aj ⟨_,rfl,by simpa[h0,h2]using hQ _ _ (Ext.refl _ _)⟩)
  ·refine ε<|γ U<|qy (b:=[]) U U<|γ U<|ζ U (by simp[h1])<|γ U<|ζ U (by simp[h1])<|du U<|ζ U (by simp[h1])<|po U U<|bh U (by simp[h1]) U<|γ U<|ζ U (by simp<;>omega)<|γ U<|ζ U (by simp<;>omega)<|ah U U<|ajx hC (cs:=[32,10,40,41,123,125]) h1 (by omega) ajz (by simp) (by simp) <| λb hb h1 n1 e1=>ζ U (by simp<;>omega)<|cz U<|bh U (by simp<;>omega) U<|γ U<|δ ?_;refine aj ⟨_,rfl,?_⟩;have:=hQ _ _ e1;have hp:=ajy s;cases a:s.all yg with
   | true=>
    have:b=false:=by cases b with | false=>rfl | true=>exact absurd (hb.1 rfl) (hp.1 a)
    subst this;simp only[h0,h2,a]at *;simpa using ‹Q _ _ _›
   | false=>
    have:b=true:=hb.2 (Classical.byContradiction λh=>by have:=hp.2 h;rw[a]at this;cases this);subst this;simp only[h0,h2,a]at *;simpa using ‹Q _ _ _›
end
end Go.Ev.X
