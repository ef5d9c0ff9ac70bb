/- A part of the proof. -/
import Derived.Test.YtjflaalpkjchoaaGreatDoorW
import Derived.Test.YtjflaalpkjchoaaGreatDoorX
import Derived.Test.YtjflaalpkjchoaaGreatDoorI
set_option linter.all false
namespace Go.Ev.X
open Go Go.Ev
section
structure Fx(ts:List Nd):Prop where
 pos:0<ts.length
 ord:∀j,j<ts.length->ord ts j=true
 z:fs ts (ts.length - 1)=0
def Fx.part{ts:List Nd}(g:Fx ts){i:Nat}(hi:i<ts.length):Fx (part ts i):=by have hl:=hJ hi;have hle:=fw ts i;refine⟨by omega,λj hj=>(CG hi g.ord j hj).1,?_⟩;have h:=(CG hi g.ord ((X.part ts i).length - 1) (by omega)).2.1;rw[h,show fs ts i+((X.part ts i).length - 1)=i by omega];omega
section
variable {ts:List Nd}(ho:∀j,j<ts.length->ord ts j=true)
include ho
def U7{p i:Nat}(hp:p<ts.length)(h1:fs ts p<=i)(h2:i<p):∃k:Nat,(k:Int)∈bO ts p/\fs ts k<=i/\i<=k/\k<p:=by have f:=uL (ho p hp);have a:cS (fs ts) (bO ts p).reverse p=true:=ho p hp;obtain⟨k,b,c,g⟩:=To a (i:Int) (by omega) (by omega);have d:=(wy a).2 k b;obtain⟨k',rfl⟩:∃k':Nat,k=(k':Int):=⟨k.toNat,by omega⟩;have e:((k':Nat):Int).toNat=k':=rfl;rw[e]at c d;exact⟨k',by simpa using b,by omega,by omega,by omega⟩
def U8:∀(p:Nat),p<ts.length->∀i,fs ts p<=i->i<p->∃q:Nat,i<q/\q<=p/\(i:Int)∈bO ts q:=by
 intro p
 induction p using Nat.strongRecOn with
 | _ p ih=>
  intro hp i h1 h2;obtain⟨k,a,b,g,c⟩:=U7 ho hp h1 h2;by_cases e:i=k
  ·subst e;exact⟨p,h2,ξ _,a⟩
  ·obtain⟨q,d,h,f⟩:=ih k c (by omega) i b (by omega);exact⟨q,d,by omega,f⟩
def yB{q j:Nat}(a:q<ts.length)(h:(j:Int)∈bO ts q):fs ts q<=fs ts j/\j<q:=by have b:cS (fs ts) (bO ts q).reverse q=true:=ho q a;have c:=(wy b).2 j (by simpa using h);have e:=uL (ho q a);have d:((j:Nat):Int).toNat=j:=rfl;rw[d]at c;omega
omit ho in
theorem amL {f:Nat->Nat} (hf:∀j,f j<=j):∀{l:List Int} {next:Int},cS f l next=true->(∀k∈l,k<next/\0<=k)/\∀a∈l,∀b∈l,a<b->a<f b.toNat:=by
 intro l
 induction l with
 | nil=>intro next _;exact⟨λk c=>absurd c (by simp),λa d=>absurd d (by simp)⟩
 | cons x l ih=>
  intro next h;simp only[cS]at h;split at h
  ·cases h
  ·rename_i o;obtain⟨g1,m⟩:=ih h;have:=hf x.toNat;refine⟨λk c=>?_,λa d b hb n=>?_⟩
   ·rcases cD.1 c with rfl | c
    ·omega
    ·have:=g1 k c;omega
   ·rcases cD.1 d with p | g
    ·rcases cD.1 hb with i | e
     ·omega
     ·have:=g1 b e;omega
    ·rcases cD.1 hb with i | e
     ·rw[i];exact(g1 a g).1
     ·exact m a g b e n
def amM{j q a:Nat}(d:q<ts.length)(b:a<ts.length)(h:(j:Int)∈bO ts q)(h':(j:Int)∈bO ts a):q=a:=by
 have key:∀q a:Nat,q<ts.length->a<ts.length->(j:Int)∈bO ts q->(j:Int)∈bO ts a->q<a->False:=by intro q a d b h h' f;have n:=yB ho d h;have o:=yB ho b h';have p:=fw ts j;obtain⟨c,g,b1,b2,b3⟩:=U7 ho b (show fs ts a<=q by omega) f;have k:cS (fs ts) (bO ts a).reverse a=true:=ho a b;have b4:=(amL (fw ts) k).2 j (by simpa using h') c (by simpa using g) (by omega);have b5:=Tq c (λi hi=>ho i (by omega)) q b1 b2;have l:((c:Nat):Int).toNat=c:=rfl;rw[l]at b4;omega
 by_cases e:q=a
 ·exact e
 ·exfalso;by_cases m:q<a
  ·exact key q a d b h h' m
  ·exact key a q b d h' h (by omega)
omit ho in
theorem LW {v:Int} {j:Nat}:∀{ks l:List Int},(∀k∈ks,0<=k)->(qG l ks v).getD j (-1)=if (j:Int)∈ks/\j<l.length then v else l.getD j (-1)
 | [],l,_=>by simp[qG]
 | k::ks,l,a=>by
  show(qG (l.set k.toNat v) ks v).getD j (-1)=_;rw[LW λx c=>a x (by simp[c])];have h0:=a k (by simp);simp only[j5,cD,dY,List.getElem?_set];by_cases h1:(j:Int)∈ks
  ·by_cases h2:j<l.length
   ·simp[h1,h2]
   ·have:l[j]?=none:=ml (by omega);simp only[h1,h2,this,and_false,if_false,Option.getD_none];by_cases e:k.toNat=j
    ·simp[e,h2]
    ·simp[e]
  ·by_cases h2:(j:Int)=k
   ·subst h2;by_cases b:j<l.length
    ·simp[b]
    ·simp[b]
   ·have:¬ k.toNat=j:=by omega
    simp[h1,h2,this]
def amN{j q:Nat}(a:q<ts.length)(h:(j:Int)∈bO ts q):(p0 ts).getD j (-1)=q:=by
 have key:∀m,m<=ts.length->(oe ts m).getD j (-1)=if q<m then (q:Int) else -1:=by
  intro m
  induction m with
  | zero=>intro _;simp[oe,dY,List.getElem?_replicate];split<;>simp
  | succ m ih=>
   intro hm;rw[oe,LW (λk c=>(jL (ho m (by omega)) k c).2),Da,ih (by omega)];have hj:=(yB ho a h).2;by_cases e:(j:Int)∈bO ts m
   ·have:=amM ho a (show m<ts.length by omega) h e;subst this;simp[e,show j<ts.length by omega]
   ·simp only[e,false_and,if_false];have:q≠m:=λd=>e (d▸h);by_cases b:q<m
    ·rw[ab b,ab (by omega)]
    ·rw[Γ b,Γ (by omega)]
 have:=key ts.length (ξ _);rw[ab a]at this;exact this
def amO:(p0 ts).getD (ts.length - 1) (-1) = -1:=by
 have key:∀m,m<=ts.length->(oe ts m).getD (ts.length - 1) (-1) = -1:=by
  intro m
  induction m with
  | zero=>intro _;simp[oe,dY,List.getElem?_replicate];split<;>simp
  | succ m ih=>
   intro hm;rw[oe,LW (λk a=>(jL (ho m (by omega)) k a).2),ih (by omega),Γ];rintro⟨h1,h2⟩;have:=(yB ho (show m<ts.length by omega) h1).2;omega
 exact key _ (ξ _)
def Gq{s:S}:∀(f f':Nat) (a:Int),(a<0\/(a<ts.length/\ts.length - a<=f/\ts.length - a<=f'))->sI ts s f a=sI ts s f' a
 | 0,0,a,_=>rfl
 | 0,f'+1,a,h=>by
  rcases h with h | h
  ·simp[sI,h]
  ·omega
 | f+1,0,a,h=>by
  rcases h with h | h
  ·simp[sI,h]
  ·omega
 | f+1,f'+1,a,h=>by
  rcases h with h | ⟨h1,h2,d⟩
  ·simp[sI,h]
  ·by_cases b:a<0
   ·simp[sI,b]
   ·simp only[sI,b,if_false];split
    ·rfl
    ·have:=(Gc ho (show a.toNat<ts.length by omega)).choose_spec.2;rcases this with e | ⟨g,c⟩
     ·rw[e];exact Gq _ _ _ (.inl (by decide))
     ·exact Gq _ _ _ (.inr ⟨c,by omega,by omega⟩)
def Gs{s:S}{j q:Nat}(a:q<ts.length)(h:(j:Int)∈bO ts q):binds ts j s=if s∈jX ts q then (q:Int) else binds ts q s:=by
 have hj:=(yB ho a h).2;unfold binds;rw[amN ho a h];cases hl:ts.length with
 | zero=>omega
 | succ m=>
  rw[sI];rw[Γ (by omega),show((q:Nat):Int).toNat=q from rfl];split
  ·rfl
  ·have:=(Gc ho a).choose_spec.2;rcases this with e | ⟨b,c⟩
   ·rw[e];exact Gq ho _ _ _ (.inl (by decide))
   ·exact Gq ho _ _ _ (.inr ⟨by omega,by omega,by omega⟩)
def U9{s:S}(h0:0<ts.length):binds ts (ts.length - 1) s<0:=by
 unfold binds;rw[amO ho];cases hl:ts.length with
 | zero=>omega
 | succ m=>simp[sI]
end
end
section
def Va(ts:List Nd)(s:S)(i:Nat):Prop:=∃hi:i<ts.length,ts[i].op=3/\ts[i].name=s/\binds ts i s<0
def Vb{ts:List Nd}{s:S}:∀m,m<=ts.length->(s∈(mS ts m).map Prod.fst↔∃i,i<m/\Va ts s i)
 | 0,_=>by simp[mS]
 | m+1,hm=>by
  have ih:=Vb (ts:=ts) (s:=s) m (by omega);have hi:m<ts.length:=by omega
  rw[Dc hi];constructor
  ·intro h;split at h
   ·rename_i a;rw[List.map_append,eG]at h;rcases h with h | h
    ·obtain⟨i,h1,h2⟩:=ih.1 h;exact⟨i,by omega,h2⟩
    ·simp at h;subst h;exact⟨m,by omega,hi,a.1,rfl,a.2.1⟩
   ·obtain⟨i,h1,h2⟩:=ih.1 h;exact⟨i,by omega,h2⟩
  ·rintro⟨i,h1,h2⟩;by_cases e:i=m
   ·subst e;obtain⟨_,g1,b,c⟩:=h2;subst b;split
    ·rw[List.map_append,eG];right;simp
    ·rename_i a;by_cases h:ts[i].name∈(mS ts i).map Prod.fst
     ·exact h
     ·exact absurd ⟨g1,c,h⟩ a
   ·have:=ih.2 ⟨i,by omega,h2⟩;split
    ·rw[List.map_append,eG];exact .inl this
    ·exact this
def As{ts:List Nd}{s:S}:fM s ts=true↔∃i,Va ts s i:=by unfold fM LB;rw[decide_eq_true_iff,Vb _ (ξ _)];exact⟨λ⟨i,_,h⟩=>⟨i,h⟩,λ⟨i,h⟩=>⟨i,h.1,h⟩⟩
section
variable {ts:List Nd}(g:Fx ts)
include g
def LX{s:S}(hs:s∈jX ts (ts.length - 1)):∀r i,i+r+1=ts.length->0<r->0<=binds ts i s:=by
 intro r
 induction r using Nat.strongRecOn with
 | _ r ih=>
  intro i hi c;have hp:=g.pos;obtain⟨q,h1,h2,a⟩:=U8 g.ord (ts.length - 1) (by omega) i (by rw[g.z];omega) (by omega);rw[Gs g.ord (show q<ts.length by omega) a];split
  ·omega
  ·rename_i b;have:q≠ts.length - 1:=λe=>b (e▸hs);exact ih (ts.length - 1 - q) (by omega) q (by omega) (by omega)
def Vc{s:S}(hs:s∈jX ts (ts.length - 1))(a:dZ ts (ts.length - 1)≠3):fM s ts=false:=by
 rw[←sN,As];rintro⟨i,hi,h1,h2,b⟩;by_cases e:i=ts.length - 1
 ·subst e;exact a (by simp[dZ,hi,h1])
 ·have:=LX g hs (ts.length - 1 - i) i (by omega) (by omega);omega
def amP{s:S}{k:Nat}(h:(k:Int)∈bO ts (ts.length - 1))(hs:s ∉ jX ts (ts.length - 1)):
 ∀r j,j+r+1=(part ts k).length->binds (part ts k) j s<0->binds ts (fs ts k+j) s<0:=by
 have hp:=g.pos;have o:=(yB g.ord (show ts.length - 1<ts.length by omega) h).2;have a:k<ts.length:=by omega
 have d:=g.part a;have p:=hJ a;have hle:=fw ts k;intro r
 induction r using Nat.strongRecOn with
 | _ r ih=>
  intro j hj hb;by_cases e:r=0
  ·have:fs ts k+j=k:=by omega
   rw[this,Gs g.ord (show ts.length - 1<ts.length by omega) h,Γ hs];exact U9 g.ord hp
  ·obtain⟨q,h1,h2,f⟩:=U8 d.ord ((part ts k).length - 1) (by omega) j (by rw[d.z];omega) (by omega);have b:q<(part ts k).length:=by omega
   have i:=f;rw[FZ a b,List.mem_map]at f;obtain⟨c,l,t⟩:=f;have m:((fs ts k+j:Nat):Int)∈bO ts (fs ts k+q):=by rw[show((fs ts k+j:Nat):Int)=c by omega];exact l
   rw[Gs g.ord (show fs ts k+q<ts.length by omega) m];rw[Gs d.ord b i]at hb;have en:jX ts (fs ts k+q)=jX (part ts k) q:=by rw[LA (show fs ts k+q<ts.length by omega),LA b,nT a b];rfl
   rw[en];split at hb
   ·omega
   ·rename_i n;rw[Γ n];exact ih (r - (q - j)) (by omega) q (by omega) hb
def yC{s:S}{k:List Nd}(a:k∈parts ts)(h:fM s k=true)(hs:s ∉ jX ts (ts.length - 1)):fM s ts=true:=by
 have hp:=g.pos;unfold parts at a;obtain⟨c,b,rfl⟩:=List.mem_map.1 a;have h0:=jL (g.ord _ (show ts.length - 1<ts.length by omega)) c b;obtain⟨c',rfl⟩:∃c':Nat,c=(c':Int):=⟨c.toNat,by omega⟩;have e:((c':Nat):Int).toNat=c':=rfl;rw[e]at h;obtain⟨i,hi,h1,h2,f⟩:=As.1 h;have d:c'<ts.length:=by omega
 have l:=hJ d;have hle:=fw ts c';have j:=amP g b hs ((part ts c').length - 1 - i) i (by omega) f;rw[nT d hi]at h1 h2;exact As.2 ⟨fs ts c'+i,by omega,h1,h2,j⟩
end
def amQ{x:Nd}{s:S}(a:x.kids=[]):binds [x] 0 s<0:=by
 have:∀j,j<[x].length->ord [x] j=true:=by
  intro j hj;have:j=0:=by simpa using hj
  subst this;simp[ord,bO,a,cS]
 exact U9 (ts:=[x]) this (by simp)
def yD{x:Nd}{s:S}(a:x.kids=[]):fM s [x]=true↔x.op=3/\x.name=s:=by
 rw[As];constructor
 ·rintro⟨i,hi,h1,h2,_⟩;have:i=0:=by simpa using hi
  subst this;exact⟨h1,h2⟩
 ·rintro⟨h1,h2⟩;exact⟨0,by simp,h1,h2,amQ a⟩
end
section
def ix(o:Nat):List (List Nd)->List Int
 | []=>[]
 | t::l=>(((o+t.length:Nat):Int) - 1)::ix (o+t.length) l
def Vd:∀(l:List (List Nd)) (s:List Nd×List Int),(l.foldl gD s).2=s.2++ix s.1.length l
 | [],s=>by simp[ix]
 | t::l,s=>by rw[List.foldl_cons,Vd l];simp[gD,ix]
def amR(l:List (List Nd)):(gK l).2=ix 0 l:=by simp[gK,Vd]
def Ve:∀(l:List (List Nd)) (s:List Nd×List Int) (m:Nat),m<s.1.length->(l.foldl gD s).1[m]?=s.1[m]?
 | [],s,m,_=>rfl
 | t::l,s,m,h=>by rw[List.foldl_cons,Ve l _ m (by simp[gD];omega)];simp only[gD];rw[oT h]
def Vf:∀(l:List (List Nd)) (s:List Nd×List Int) (i:Nat) (hi:i<l.length) (j:Nat) (hj:j<l[i].length),(l.foldl gD s).1[s.1.length+lens (l.take i)+j]?=some (lM (λk=>k+((s.1.length+lens (l.take i):Nat):Int)) l[i][j])
 | [],s,i,hi,_,_=>by simp at hi
 | t::l,s,0,hi,j,hj=>by have a:j<t.length:=hj;rw[List.foldl_cons,Ve l _ _ (by simp[gD,lens];omega)];simp only[gD,List.take_zero,lens,j6];rw[qc (by omega),Nat.add_sub_cancel_left,List.getElem?_map,aX a];rfl
 | t::l,s,i+1,hi,j,hj=>by
  have h:=Vf l (gD s t) i (by simpa using hi) j hj;have e:(gD s t).1.length=s.1.length+t.length:=by simp[gD]
  rw[List.foldl_cons];simp only[j7,lens,oV];rw[e]at h;rw[show s.1.length+(t.length+lens (List.take i l))=s.1.length+t.length+lens (List.take i l) by omega];exact h
section
variable {x:Nd}{l:List (List Nd)}
def Dh{i:Nat}(hi:i<l.length){j:Nat}(hj:j<l[i].length):(cM x l)[lens (l.take i)+j]?=some (lM (λk=>k+((lens (l.take i):Nat):Int)) l[i][j]):=by have h:=Vf l ([],[]) i hi j hj;simp only[mW,eV]at h;unfold cM gK;rw[oT (cZ.1 h).1];exact h
def Di:(cM x l)[lens l]?=some (wk x (ix 0 l)):=by unfold cM;rw[qc (by rw[(qF l).1];exact ξ _),(qF l).1,amR];simp
def amS{i:Nat}(hi:i<l.length){j:Nat}(hj:j<l[i].length):bO (cM x l) (lens (l.take i)+j)=(bO l[i] j).map λk=>k+((lens (l.take i):Nat):Int):=by rw[bO,Dh hi hj,jW hj];rfl
def LY:bO (cM x l) (lens l)=ix 0 l:=by rw[bO,Di];rfl
end
def Vg{t:List Nd}{A:List Nd}{off:Nat}:∀{l:List Int} {next:Int},(∀k∈l,0<=k->k<next->fs A (k+off).toNat=fs t k.toNat+off)->cS (fs t) l next=true->cS (fs A) (l.map λk=>k+(off:Int)) (next+off)=true/\jN A (l.map λk=>k+(off:Int)) (next+off)=jN t l next+off
 | [],next,_,_=>⟨rfl,rfl⟩
 | a::l,next,c,b=>by
  simp only[cS]at b;split at b
  ·cases b
  ·rename_i e;have h1:=c a (by simp) (by omega) (by omega);have h2:=fw t a.toNat;have f:=S5 t l _ b;have ih:=Vg (t:=t) (A:=A) (off:=off) (l:=l) (next:=(fs t a.toNat:Int)) (λk d g1 h=>c k (by simp[d]) g1 (by omega)) b;simp only[eY,cS,jN];rw[Γ (by omega),h1];exact ih
def amT{A t:List Nd}{off:Nat}(a:∀j,j<t.length->bO A (off+j)=(bO t j).map λk=>k+(off:Int))(c:∀j,j<t.length->ord t j=true):
 ∀j,j<t.length->ord A (off+j)=true/\fs A (off+j)=fs t j+off:=by
 intro j
 induction j using Nat.strongRecOn with
 | _ j ih=>
  intro hj;have b:=c j hj;have d:cS (fs t) (bO t j).reverse j=true:=b;have h:=Vg (t:=t) (A:=A) (off:=off) (l:=(bO t j).reverse) (next:=(j:Int)) (λk a h1 h2=>by have:=(ih k.toNat (by omega) (by omega)).2;rw[show(k+(off:Int)).toNat=off+k.toNat by omega];exact this) d
  rw[List.map_reverse,←a j hj,show(j:Int)+(off:Int)=((off+j:Nat):Int) by omega]at h;refine⟨h.1,?_⟩;have e:=uL (ts:=A) (i:=off+j) h.1;have f:=uL b;omega
def Vh{f:List Nd}:∀{a b:List Int} {next:Int},cS (fs f) a next=true->cS (fs f) b (jN f a next)=true->cS (fs f) (a++b) next=true
 | [],b,next,_,h=>h
 | k::a,b,next,h1,h2=>by
  simp only[cS]at h1;split at h1
  ·cases h1
  ·rename_i c;simp only[j8,cS];rw[Γ c];exact Vh h1 h2
def Vi{A:List Nd}:∀(l:List (List Nd)) (o:Nat),(∀t∈l,0<t.length)->(∀i,i<l.length->fs A (o+lens (l.take (i+1)) - 1)=o+lens (l.take i))->cS (fs A) (ix o l).reverse ((o+lens l:Nat):Int)=true/\jN A (ix o l).reverse ((o+lens l:Nat):Int)=o
 | [],o,_,_=>⟨rfl,rfl⟩
 | t::l,o,hp,hf=>by
  have ht:=hp t (by simp);have h0:=hf 0 (by simp);simp only[j7,List.take_zero,lens,j6]at h0;obtain⟨a,b⟩:=Vi (A:=A) l (o+t.length) (λt ht=>hp t (by simp[ht])) (λi hi=>by have:=hf (i+1) (by simp;omega);simp only[j7,lens]at this;rw[show o+t.length+lens (l.take (i+1)) - 1=o+(t.length+lens (l.take (i+1))) - 1 by omega,this];omega)
  simp only[ix,List.reverse_cons,lens];rw[show o+(t.length+lens l)=o+t.length+lens l by omega];constructor
  ·refine Vh a ?_;rw[b];simp only[cS];rw[Γ (by omega)]
  ·rw[Tp,show(((o+t.length:Nat):Int) - 1).toNat=o+t.length - 1 by omega,h0]
section
variable {x:Nd}{l:List (List Nd)}(g:∀t∈l,Fx t)
include g
def LZ{i:Nat}(hi:i<l.length){j:Nat}(hj:j<l[i].length):ord (cM x l) (lens (l.take i)+j)=true/\fs (cM x l) (lens (l.take i)+j)=fs l[i] j+lens (l.take i):=
 amT (λj hj=>amS hi hj) (g l[i] (bL hi)).ord j hj
omit g in
theorem Gt {i:Nat} (hi:i<l.length):lens (l.take (i+1))=lens (l.take i)+l[i].length:=by rw[gm hi,LO];simp[lens]
omit g in
theorem L5:∀(l:List (List Nd)) (m:Nat),m<lens l->∃i,∃hi:i<l.length,∃j,j<l[i].length/\m=lens (l.take i)+j
 | [],m,h=>by simp[lens]at h
 | t::l,m,h=>by
  by_cases e:m<t.length
  ·exact⟨0,by simp,m,e,by simp[lens]⟩
  ·obtain⟨i,hi,j,hj,h2⟩:=L5 l (m - t.length) (by simp[lens]at h;omega);exact⟨i+1,by simp;omega,j,hj,by simp[lens];omega⟩
def amU:cS (fs (cM x l)) (ix 0 l).reverse ((lens l:Nat):Int)=true/\jN (cM x l) (ix 0 l).reverse ((lens l:Nat):Int)=0:=by
 have h:=Vi (A:=cM x l) l 0 (λt ht=>(g t ht).pos) (λi hi=>by have a:=g l[i] (bL hi);have hp:=a.pos;rw[eV,eV,Gt hi,show lens (l.take i)+l[i].length - 1=lens (l.take i)+(l[i].length - 1) by omega,(LZ g hi (show l[i].length - 1<l[i].length by omega)).2,a.z];omega)
 rw[eV]at h;exact h
def L6:Fx (cM x l):=by
 have hl:=oc x l;have a:=amU (x:=x) g;have h1:ord (cM x l) (lens l)=true:=by unfold ord;rw[LY];exact a.1
 refine⟨by omega,λm hm=>?_,?_⟩
 ·by_cases e:m=lens l
  ·subst e;exact h1
  ·obtain⟨i,hi,j,hj,rfl⟩:=L5 l m (by omega);exact(LZ g hi hj).1
 ·rw[hl,Nat.add_sub_cancel];have:=uL h1;rw[LY,a.2]at this;omega
omit g in
theorem amV {o:Nat} {y:Nd}:ma o (lM (λk=>k+(o:Int)) y)=y:=by
 obtain⟨a,b,c,d,ks⟩:=y;simp only[ma,lM,wk,List.map_map];have:ks.map ((λk=>k - (o:Int)) ∘ λk=>k+(o:Int))=ks:=by
  have:∀l:List Int,l.map ((λk=>k - (o:Int)) ∘ λk=>k+(o:Int))=l:=by
   intro l
   induction l with
   | nil=>rfl
   | cons k l ih=>rw[eY,ih];congr 1;show k+(o:Int) - o=k;omega
  exact this ks
 rw[this]
def amW{i:Nat}(hi:i<l.length):part (cM x l) (lens (l.take (i+1)) - 1)=l[i]:=by
 have b:=g l[i] (bL hi);have hp:=b.pos;have hs:=Gt hi;have hle:=Lt l (i+1);have hl:=oc x l;have d:lens (l.take (i+1)) - 1=lens (l.take i)+(l[i].length - 1):=by omega
 have a:=(LZ (x:=x) g hi (show l[i].length - 1<l[i].length by omega)).2;rw[b.z,eV]at a;rw[d];have c:lens (l.take i)+(l[i].length - 1)<(cM x l).length:=by omega
 have e:=hJ c;rw[a]at e;apply qg (by omega);intro j h1 h2;rw[nT c h1];have:=Dh (x:=x) hi h2;obtain⟨h,f⟩:=cZ.1 this;simp only[a];rw[f,amV]
omit g in
theorem L7:∀(l:List (List Nd)) (o i:Nat),i<l.length->(ix o l)[i]?=some (((o+lens (l.take (i+1)):Nat):Int) - 1)
 | [],o,i,h=>by simp at h
 | t::l,o,0,h=>by simp[ix,lens]
 | t::l,o,i+1,h=>by simp only[ix,qa];rw[L7 l (o+t.length) i (by simpa using h)];simp[lens,mj]
omit g in
theorem Au:∀(l:List (List Nd)) (o:Nat),(ix o l).length=l.length
 | [],o=>rfl
 | t::l,o=>by simp[ix,Au l]
def Vj:parts (cM x l)=l:=by have hl:=oc x l;unfold parts;rw[hl,Nat.add_sub_cancel,LY];apply qg (by simp[Au]);intro i h1 h2;have a:=L7 l 0 i h2;obtain⟨c,b⟩:=cZ.1 a;rw[List.getElem_map,b,eV];have hp:=(g l[i] (bL h2)).pos;have hs:=Gt h2;rw[show(((lens (l.take (i+1)):Nat):Int) - 1).toNat=lens (l.take (i+1)) - 1 by omega];exact amW g h2
end
end
def Gu{x:S}:∀(a b:List Bi),eD x (a++b)=match eD x a with | some t=>some t | none=>eD x b
 | [],b=>rfl
 | p::a,b=>by
  simp only[j8,eD];split
  ·rfl
  ·exact Gu a b
def L8{x y:S}{t:List Nd}:eD x [(y,t)]=if y=x then some t else none:=by simp[eD]
def Vk{w:S}:∀{l:List S} {i:Nat},l.Nodup->w ∉ l->(l.set i w).Nodup
 | [],_,_,_=>by simp
 | a::l,0,h,hw=>by simp only[List.set_cons_zero,List.nodup_cons]at h ⊢;exact⟨λe=>hw (by simp[e]),h.2⟩
 | a::l,i+1,h,hw=>by
  simp only[qe,List.nodup_cons]at h ⊢;refine⟨λe=>?_,Vk h.2 λe=>hw (by simp[e])⟩;rcases List.mem_or_eq_of_mem_set e with e | e
  ·exact h.1 e
  ·exact hw (by simp[e])
def amX{l:List Bi}{vs:List (S×S)}{ks:List (List Nd)}{s:S}:taken l vs ks s=false↔kM s l=false/\s ∉ vs.map Prod.fst/\wC s ks=false:=by unfold taken;rw[xn,xn,gT];exact⟨λh=>⟨h.1.1,h.1.2,h.2⟩,λh=>⟨⟨h.1,h.2.1⟩,h.2.2⟩⟩
def Vl{N:Nat}{l:List Bi}{vs:List (S×S)}{ks:List (List Nd)}(h1:∀b∈l,hY N b.2)(h2:∀v∈vs,v.1.length<=N)(a:∀k∈ks,hY N k):∀(f:Nat) (s:S),N<f+s.length->taken l vs ks (fresh l vs ks f s)=false
 | 0,s,h=>LL h1 h2 a (show N<s.length by omega)
 | f+1,s,h=>by
  unfold fresh;split
  ·exact Vl h1 h2 a f _ (by simp;omega)
  ·rename_i ht;simpa using ht
structure Ou(l:List Bi)(ks:List (List Nd))(vs:List (S×S))(i:Nat)(us:List (S×S))(m:List Bi):Prop where
 len:us.length=vs.length
 Ej:∀j v,vs[j]?=some v->∃w,us[j]?=some (w,v.2)/\(i<=j->w=v.1)/\(j<i->kM w l=false/\(w=v.1/\kM v.1 l=false\/kM v.1 l=true/\wC w ks=false)/\eD v.1 m=match eD v.1 l with | some b=>some b | none=>if kM v.1 l=true then some (dJ w v.2) else none)
 L9:(us.map Prod.fst).Nodup
 fo:∀x,(∀j v,j<i->vs[j]?=some v->v.1≠x)->eD x m=eD x l
def Dj{vs:List (S×S)}(h:(vs.map Prod.fst).Nodup){i j:Nat}{v w:S×S}(hi:vs[i]?=some v)(hj:vs[j]?=some w)(e:v.1=w.1):i=j:=by
 obtain⟨a,c⟩:=cZ.1 hi;obtain⟨b1,b2⟩:=cZ.1 hj;have key:∀i j (hi:i<vs.length) (hj:j<vs.length),vs[i].1=vs[j].1->¬ i<j:=λi j hi hj e d=>by have:=List.pairwise_iff_getElem.1 h i j (by simpa using hi) (by simpa using hj) d;simp only[List.getElem_map]at this;exact this e
 have b:vs[i].1=vs[j].1:=by rw[c,b2];exact e
 have k1:=key i j a b1 b;have k2:=key j i b1 a b.symm;omega
def Vm{F N:Nat}{l:List Bi}{ks:List (List Nd)}{vs:List (S×S)}(h1:∀b∈l,hY N b.2)(h2:∀v∈vs,v.1.length<=N)(c:∀k∈ks,hY N k)(d:(vs.map Prod.fst).Nodup)(q:N+vs.length<F):
 ∀i,i<=vs.length->Ou l ks vs i (rn F l ks vs i).1 (rn F l ks vs i).2
 | 0,_=>⟨rfl,λj v hj=>⟨v.1,hj,λ_=>rfl,λh=>by omega⟩,d,λx _=>rfl⟩
 | i+1,hi=>by
  have ih:=Vm h1 h2 c d q i (by omega);have iE:=(yz (F:=F) h1 h2 c i).1;show Ou l ks vs (i+1) (xh F l ks (rn F l ks vs i) i).1 (xh F l ks (rn F l ks vs i) i).2;generalize rn F l ks vs i=s at ih iE;obtain⟨us,m⟩:=s;have hv:vs[i]?=some vs[i]:=aX (by omega);obtain⟨w,f,r,C⟩:=ih.Ej i _ hv;have t:=r (ξ _);subst t;unfold xh;simp only at f ih iE ⊢;rw[f];simp only;have g:∀j v,vs[j]?=some v->j≠i->v.1≠vs[i].1:=λj v hj u e=>u (Dj d hj hv e);have n:eD vs[i].1 m=eD vs[i].1 l:=ih.fo _ λj v hj h=>g j v h (by omega);by_cases hm:kM vs[i].1 l=true
  ·rw[ab hm];have o:=Vl (N:=N+i) (l:=l) (vs:=us) (ks:=ks) (λb hb=>(h1 b hb).mono (by omega)) iE (λk y=>(c k y).mono (by omega)) F (vs[i].1++[39]) (by omega);generalize fresh l us ks F (vs[i].1++[39])=w at o;obtain⟨z,A,B⟩:=amX.1 o;refine⟨by simpa using ih.len,λj v hj=>?_,?_,λx a=>?_⟩
   ·by_cases e:j=i
    ·subst e;rw[hv]at hj;injection hj with hj;subst hj;refine⟨w,by rw[List.getElem?_set_self (by rw[ih.len];omega)],λh=>by omega,λ_=>⟨z,.inr ⟨hm,B⟩,?_⟩⟩;rw[Gu,n,L8,ab rfl,ab hm]
    ·obtain⟨w',b1,b2,b3⟩:=ih.Ej j v hj;refine⟨w',by rw[List.getElem?_set_ne (by omega)];exact b1,λh=>b2 (by omega),λh=>?_⟩;obtain⟨c1,c2,c3⟩:=b3 (by omega);refine⟨c1,c2,?_⟩;have:eD v.1 (m++[(vs[i].1,dJ w vs[i].2)])=eD v.1 m:=by rw[Gu,L8,Γ (Ne.symm (g j v hj e))];cases eD v.1 m<;>rfl
     rw[this,c3]
   ·rw[show(us.set i (w,vs[i].2)).map Prod.fst=(us.map Prod.fst).set i w by rw[List.map_set]];exact Vk ih.L9 A
   ·have:eD x (m++[(vs[i].1,dJ w vs[i].2)])=eD x m:=by rw[Gu,L8,Γ (a i _ (by omega) hv)];cases eD x m<;>rfl
    rw[this,ih.fo x λj v hj h=>a j v (by omega) h]
  ·rw[Γ hm];have p:kM vs[i].1 l=false:=by simpa using hm
   refine⟨ih.len,λj v hj=>?_,ih.L9,λx a=>ih.fo x λj v hj h=>a j v (by omega) h⟩;by_cases e:j=i
   ·subst e;rw[hv]at hj;injection hj with hj;subst hj;refine⟨_,f,λh=>rfl,λ_=>⟨p,.inl ⟨rfl,p⟩,?_⟩⟩;rw[n,Γ hm];cases eD vs[j].1 l<;>rfl
   ·obtain⟨w',b1,b2,b3⟩:=ih.Ej j v hj;exact⟨w',b1,λh=>b2 (by omega),λh=>b3 (by omega)⟩
def amZ{F N:Nat}{l:List Bi}{ks:List (List Nd)}{vs:List (S×S)}(h1:∀b∈l,hY N b.2)(h2:∀v∈vs,v.1.length<=N)(a:∀k∈ks,hY N k)(c:(vs.map Prod.fst).Nodup)(d:N+vs.length<F):
 Ou l ks vs vs.length (rn F l ks vs vs.length).1 (rn F l ks vs vs.length).2:=Vm h1 h2 a c d _ (ξ _)
section
def Nv(x:Nd):Prop:=(x.op=3->x.kids=[]/\x.vars=[])/\(¬ (x.op=17\/x.op=18)->x.vars=[])
structure Wf(ts:List Nd):Prop where
 fx:Fx ts
 nv:∀x∈ts,Nv x
def vm(l:List (S×S))(x y:S):Bool:=match eC x y l.reverse with | some r=>r | none=>decide (x=y)
def wD{x y:S}:∀(a b:List (S×S)),eC x y (a++b)=match eC x y a with | some r=>some r | none=>eC x y b
 | [],b=>rfl
 | p::a,b=>by
  simp only[j8,eC];split
  ·rfl
  ·exact wD a b
def yE{x y:S}:∀{l:List (S×S)},eC x y l=none↔∀p∈l,p.1≠x/\p.2≠y
 | []=>by simp[eC]
 | p::l=>by
  simp only[eC];by_cases h:p.1=x\/p.2=y
  ·rw[ab h];refine⟨λe=>absurd e (by simp),λe=>?_⟩;have:=e p (by simp);rcases h with h | h
   ·exact absurd h this.1
   ·exact absurd h this.2
  ·rw[Γ h,yE (l:=l)];constructor
   ·intro e q c;rcases cD.1 c with rfl | c
    ·exact⟨λa=>h (.inl a),λa=>h (.inr a)⟩
    ·exact e q c
   ·exact λe q c=>e q (by simp[c])
def Vn{x y:S}:∀{l:List (S×S)},eC x y l=some true->(x,y)∈l
 | [],h=>by cases h
 | p::l,h=>by
  simp only[eC]at h;split at h
  ·simp at h;obtain⟨rfl,rfl⟩:=h;simp
  ·simp[Vn h]
def Vo{x y:S}:∀{l:List (S×S)},(l.map Prod.fst).Nodup->(l.map Prod.snd).Nodup->(x,y)∈l->eC x y l=some true
 | [],_,_,h=>by simp at h
 | p::l,h1,h2,h=>by
  simp only[eY,List.nodup_cons]at h1 h2;simp only[eC];rcases cD.1 h with rfl | h
  ·simp
  ·rw[Γ,Vo h1.2 h2.2 h];rintro(e | e)
   ·exact h1.1 (List.mem_map.2 ⟨_,h,e.symm⟩)
   ·exact h2.1 (List.mem_map.2 ⟨_,h,e.symm⟩)
def Dk:∀{a b:List (S×S)},a.length=b.length->(dI a b).map Prod.fst=a.map Prod.fst/\(dI a b).map Prod.snd=b.map Prod.fst
 | [],[],_=>⟨rfl,rfl⟩
 | p::a,q::b,h=>by have:=Dk (a:=a) (b:=b) (by simpa using h);simp[dI,this]
 | [],_::_,h=>by simp at h
 | _::_,[],h=>by simp at h
def Gv{x y:S}:∀{a b:List (S×S)},(x,y)∈dI a b->∃(j:Nat) (v u:S×S),a[j]?=some v/\b[j]?=some u/\v.1=x/\u.1=y
 | [],_,h=>by simp[dI]at h
 | _::_,[],h=>by simp[dI]at h
 | p::a,q::b,h=>by
  simp only[dI,cD,Prod.mk.injEq]at h;rcases h with ⟨rfl,rfl⟩ | h
  ·exact⟨0,p,q,rfl,rfl,rfl,rfl⟩
  ·obtain⟨j,v,u,h1,h2,c⟩:=Gv h;exact⟨j+1,v,u,h1,h2,c⟩
def Vp:∀{a b:List (S×S)} {j:Nat} {v u:S×S},a[j]?=some v->b[j]?=some u->(v.1,u.1)∈dI a b
 | [],_,_,_,_,h,_=>by simp at h
 | _::_,[],_,_,_,_,h=>by simp at h
 | p::a,q::b,0,v,u,h1,h2=>by simp at h1 h2;subst h1;subst h2;simp[dI]
 | p::a,q::b,j+1,v,u,h1,h2=>by have:=Vp (a:=a) (b:=b) (j:=j) (by simpa using h1) (by simpa using h2);simp[dI,this]
def Ma:∀{a b:List (S×S)} {j:Nat} {v u:S×S},hK a b=true->a[j]?=some v->b[j]?=some u->v.2=u.2
 | [],_,_,_,_,_,h,_=>by simp at h
 | _::_,[],_,_,_,_,_,h=>by simp at h
 | p::a,q::b,0,v,u,h,h1,h2=>by simp at h1 h2;subst h1;subst h2;simp[hK]at h;exact h.1
 | p::a,q::b,j+1,v,u,h,h1,h2=>by simp[hK]at h;exact Ma h.2 (by simpa using h1) (by simpa using h2)
def Gw:∀{a b:List (S×S)},(∀(j:Nat) v u,a[j]?=some v->b[j]?=some u->v.2=u.2)->hK a b=true
 | [],b,_=>by cases b<;>rfl
 | _::_,[],_=>rfl
 | p::a,q::b,h=>by simp only[hK,aD,decide_eq_true_iff];exact⟨h 0 p q rfl rfl,Gw λj v u h1 h2=>h (j+1) v u (by simpa using h1) (by simpa using h2)⟩
def Av{f:List Nd->List Nd->Bool}:∀{a b:List (List Nd)},nU f a b=true↔∀(i:Nat) x y,a[i]?=some x->b[i]?=some y->f x y=true
 | [],b=>by cases b<;>simp[nU]
 | _::_,[]=>by simp[nU]
 | p::a,q::b=>by
  simp only[nU,aD];rw[Av];constructor
  ·rintro⟨h1,h2⟩ i x y c d;cases i with
   | zero=>simp at c d;subst c;subst d;exact h1
   | succ i=>exact h2 i x y (by simpa using c) (by simpa using d)
  ·intro h;exact⟨h 0 p q rfl rfl,λi x y c d=>h (i+1) x y (by simpa using c) (by simpa using d)⟩
def Fx.root{ts:List Nd}(g:Fx ts):∃x,ts[ts.length - 1]?=some x/\x∈ts:=⟨_,aX (by have:=g.pos;omega),bL _⟩
def Fx.one{ts:List Nd}(g:Fx ts){x:Nd}(h:ts[ts.length - 1]?=some x)(d:x.kids=[]):ts=[x]:=by
 have c:=g.z;have hp:=g.pos;have e:bO ts (ts.length - 1)=[]:=by rw[bO,h];exact d
 rw[Kr,e]at c;have c:ts.length - 1=0:=c;obtain⟨a,rfl⟩:=List.length_eq_one_iff.1 (show ts.length=1 by omega);simp at h;rw[h]
def Fx.kids{ts:List Nd}(g:Fx ts){k:List Nd}(d:k∈parts ts):Fx k/\k.length<ts.length/\∀y∈k,∃z∈ts,y.op=z.op/\y.sort=z.sort/\y.name=z.name/\y.vars=z.vars/\(z.kids=[]->y.kids=[]):=by
 have hp:=g.pos;unfold parts at d;obtain⟨c,h,rfl⟩:=List.mem_map.1 d;have h0:=jL (g.ord _ (show ts.length - 1<ts.length by omega)) c h;have f:c.toNat<ts.length:=by omega
 refine⟨g.part f,by rw[hJ f];have:=fw ts c.toNat;omega,λy i=>?_⟩;obtain⟨z,j,rfl⟩:=List.mem_map.1 i;exact⟨z,zg (tN j),rfl,rfl,rfl,rfl,λe=>by simp[ma,e]⟩
def Wf.kids{ts:List Nd}(g:Wf ts){k:List Nd}(e:k∈parts ts):Wf k:=by obtain⟨h1,_,h2⟩:=g.fx.kids e;refine⟨h1,λy f=>?_⟩;obtain⟨z,i,c,o,p,d,j⟩:=h2 y f;obtain⟨n1,n⟩:=g.nv z i;exact⟨λh=>⟨j (n1 (c▸h)).1,by rw[d];exact(n1 (c▸h)).2⟩,λh=>by rw[d];exact n (c▸h)⟩
section
variable {a b:List Nd}{x y:Nd}{m:Nat}{l:List (S×S)}
def Dl(c:a[a.length - 1]?=some x)(hb:b[b.length - 1]?=some y):fX (m+1) a b l=
 if iU x y then false else
  match (if x.op=3 then eC x.name y.name l.reverse else none) with
  | some r=>r
  | none=>if x.name=y.name then (if hK x.vars y.vars then nU (λp q=>fX m p q (l++dI x.vars y.vars)) (parts a) (parts b) else false) else false:=by
 obtain⟨h1,d⟩:=cZ.1 c;obtain⟨h2,e⟩:=cZ.1 hb;rw[aiK h1 h2];simp only[d,e];rfl
def Gx:iU x y=false↔x.op=y.op/\x.sort=y.sort/\x.kids.length=y.kids.length/\x.vars.length=y.vars.length:=by simp[iU]
def Gy(d:a[a.length - 1]?=some x)(hb:b[b.length - 1]?=some y)(e:x.op≠3):fX (m+1) a b l=true↔
 (x.op=y.op/\x.sort=y.sort/\x.kids.length=y.kids.length/\x.vars.length=y.vars.length)/\x.name=y.name/\hK x.vars y.vars=true/\∀(i:Nat) p q,(parts a)[i]?=some p->(parts b)[i]?=some q->fX m p q (l++dI x.vars y.vars)=true:=by
 rw[Dl d hb,Γ e,←Gx];cases hu:iU x y with
 | true=>simp
 | false=>
  simp only[mV,if_false,true_and];by_cases c:x.name=y.name
  ·by_cases hs:hK x.vars y.vars=true
   ·simp only[c,hs,if_true,true_and];exact Av
   ·simp[c,hs]
  ·simp[c]
def Mb(c:a[a.length - 1]?=some x)(hb:b[b.length - 1]?=some y)(d:x.op=3)(e:x.kids=[])(f:x.vars=[]):fX (m+1) a b l=true↔
 (x.op=y.op/\x.sort=y.sort/\x.kids.length=y.kids.length/\x.vars.length=y.vars.length)/\vm l x.name y.name=true:=by
 have hp:parts a=[]:=by unfold parts bO;rw[c];simp[e]
 rw[Dl c hb,ab d,←Gx];cases hu:iU x y with
 | true=>simp
 | false=>
  simp only[mV,if_false,true_and];unfold vm;cases eC x.name y.name l.reverse with
  | some r=>simp
  | none=>
   have:nU (λp q=>fX m p q (l++dI x.vars y.vars)) (parts a) (parts b)=true:=by rw[hp];cases parts b<;>rfl
   have h2:hK x.vars y.vars=true:=by rw[f];cases y.vars<;>rfl
   simp[this,h2]
end
def Vq:∀(m:Nat) {a b:List Nd} {l:List (S×S)},fX m a b l=true->fX (m+1) a b l=true
 | 0,_,_,_,h=>by cases h
 | m+1,a,b,l,h=>by
  unfold fX at h ⊢;cases c:a[a.length - 1]? with
  | none=>rw[c]at h;cases h
  | some x=>cases hb:b[b.length - 1]? with
   | none=>rw[c,hb]at h;cases h
   | some y=>
    rw[c,hb]at h;simp only at h ⊢;cases hu:iU x y with
    | true=>rw[hu]at h;cases h
    | false=>
     rw[hu]at h;simp only[mV,if_false]at h ⊢;split
     ·rename_i r d;rw[d]at h;exact h
     ·rename_i d;rw[d]at h;simp only at h;split
      ·rename_i e;rw[ab e]at h;split
       ·rename_i hs;rw[ab hs]at h;rw[Av]at h ⊢;exact λi x y f g=>Vq m (h i x y f g)
       ·rename_i hs;rw[Γ hs]at h;cases h
      ·rename_i e;rw[Γ e]at h;cases h
def Vr{a b:List Nd}{l:List (S×S)}{m k:Nat}(h:fX m a b l=true)(e:m<=k):fX k a b l=true:=by
 induction e with
 | refl=>exact h
 | step _ ih=>exact Vq _ ih
def Vs:∀(m:Nat) {a b:List Nd} {l:List (S×S)},Fx a->Fx b->fX m a b l=true->fX a.length a b l=true
 | 0,_,_,_,_,_,h=>by cases h
 | m+1,a,b,l,d,f,h=>by
  obtain⟨x,g,_⟩:=d.root;obtain⟨y,j,_⟩:=f.root;have hp:=d.pos;obtain⟨r,k⟩:∃r,a.length=r+1:=⟨a.length - 1,by omega⟩;rw[k];rw[Dl g j]at h ⊢;cases hu:iU x y with
  | true=>rw[hu]at h;cases h
  | false=>
   rw[hu]at h;simp only[mV,if_false]at h ⊢;split
   ·rename_i q c;rw[c]at h;exact h
   ·rename_i c;rw[c]at h;simp only at h;split
    ·rename_i e;rw[ab e]at h;split
     ·rename_i hs;rw[ab hs]at h;rw[Av]at h ⊢;intro i p q hp c;obtain⟨k1,k2,_⟩:=d.kids (List.mem_of_getElem? hp);obtain⟨k3,_,_⟩:=f.kids (List.mem_of_getElem? c);exact Vr (Vs m k1 k3 (h i p q hp c)) (by omega)
     ·rename_i hs;rw[Γ hs]at h;cases h
    ·rename_i e;rw[Γ e]at h;cases h
def Vt:∀(m:Nat) {P Q:List Nd} {l1 d l2:List (S×S)},Wf P->Wf Q->(∀p∈d,(fM p.1 P=true->p.1∈l2.map Prod.fst)/\(fM p.2 Q=true->p.2∈l2.map Prod.snd))->fX m P Q (l1++l2)=true->fX m P Q (l1++d++l2)=true
 | 0,_,_,_,_,_,_,_,_,h=>by cases h
 | m+1,P,Q,l1,d,l2,f,j,A,h=>by
  obtain⟨x,n,mx⟩:=f.fx.root;obtain⟨y,o,G⟩:=j.fx.root;obtain⟨H,x2⟩:=f.nv x mx;obtain⟨B,N⟩:=j.nv y G;by_cases k:x.op=3
  ·obtain⟨t,I⟩:=H k;rw[Mb n o k t I]at h ⊢;refine⟨h.1,?_⟩;have hv:=h.2;have u:y.op=3:=by rw[←h.1.1];exact k
   have J:=f.fx.one n t;have K:=j.fx.one o (B u).1;unfold vm at hv ⊢;simp only[List.reverse_append]at hv ⊢;rw[wD]at hv ⊢;cases h2:eC x.name y.name l2.reverse with
   | some r=>rw[h2]at hv;exact hv
   | none=>
    rw[h2]at hv;simp only at hv ⊢;have s:=yE.1 h2;have:eC x.name y.name d.reverse=none:=yE.2 λp hp=>by
     obtain⟨v,w⟩:=A p (by simpa using hp);refine⟨λe=>?_,λe=>?_⟩
     ·have:=v (by rw[J];exact(yD t).2 ⟨k,e.symm⟩);obtain⟨q,c,z⟩:=List.mem_map.1 this;exact(s q (by simpa using c)).1 (z.trans e)
     ·have:=w (by rw[K];exact(yD (B u).1).2 ⟨u,e.symm⟩);obtain⟨q,c,z⟩:=List.mem_map.1 this;exact(s q (by simpa using c)).2 (z.trans e)
    rw[wD,this];exact hv
  ·rw[Gy n o k]at h ⊢;obtain⟨C,s,hs,L⟩:=h;refine⟨C,s,hs,λi p q hp c=>?_⟩;have:=L i p q hp c;have D:=List.mem_of_getElem? hp;have E:=List.mem_of_getElem? c;rw[ku]at this;rw[ku (l1++d)];have F:=Dk C.2.2.2;refine Vt m (f.kids D) (j.kids E) (λr M=>?_) this;obtain⟨v,w⟩:=A r M;refine⟨λg=>?_,λg=>?_⟩
   ·rw[List.map_append,eG];by_cases e:r.1∈x.vars.map Prod.fst
    ·right;rw[F.1];exact e
    ·left;exact v (yC f.fx D g (by unfold jX;rw[n];exact e))
   ·rw[List.map_append,eG];by_cases e:r.2∈y.vars.map Prod.fst
    ·right;rw[F.2];exact e
    ·left;exact w (yC j.fx E g (by unfold jX;rw[o];exact e))
end
def AE(a b:List Nd)(l:List (S×S)):Prop:=fX a.length a b l=true
def pL(a b:List Nd):Prop:=a.map Nd.kids=b.map Nd.kids
def Sd(s:S->S)(ts:List Nd):Prop:=∀x∈ts,(x.op=3->x.sort=s x.name)/\(x.vars.map Prod.fst).Nodup/\∀v∈x.vars,v.2=s v.1
def sK(l:List Bi)(x s:S):List Nd:=(eD x l).getD (dJ x s)
def Sd.kids{s:S->S}{ts:List Nd}(h:Sd s ts)(g:Fx ts){k:List Nd}(a:k∈parts ts):Sd s k:=by intro y b;obtain⟨z,c,d,e,f,i,_⟩:=(g.kids a).2.2 y b;rw[d,e,f,i];exact h z c
def Mc{x s:S}:Fx (dJ x s):=by
 have e:fs (dJ x s) 0=0:=by have:=fw (dJ x s) 0;omega
 refine⟨by simp[dJ],λj hj=>?_,e⟩;have:j=0:=by simpa[dJ]using hj
 subst this;simp[ord,bO,dJ,cS]
def Vu{x s:S}:Wf (dJ x s):=⟨Mc,λy a=>by simp only[dJ,gF]at a;subst a;exact⟨λ_=>⟨rfl,rfl⟩,λ_=>rfl⟩⟩
def Dn{x:S}{ts:List Nd}:∀{l:List Bi},eD x (cK ts l)=if fM x ts=true then eD x l else none
 | []=>by simp[cK,eD]
 | p::l=>by
  have ih:=Dn (x:=x) (ts:=ts) (l:=l);unfold cK at ih ⊢;rw[List.filter_cons];by_cases hp:fM p.1 ts=true
  ·rw[ab hp];simp only[eD,ih];by_cases e:p.1=x
   ·subst e;simp[hp]
   ·simp[e]
  ·rw[Γ hp,ih];by_cases e:p.1=x
   ·subst e;simp[hp]
   ·simp[eD,e]
def Vv:∀{l l':List (List Nd)} {s s':List Nd×List Int},l.length=l'.length->(∀(i:Nat) a b,l[i]?=some a->l'[i]?=some b->pL a b)->s.1.map Nd.kids=s'.1.map Nd.kids->s.2=s'.2->(l.foldl gD s).1.map Nd.kids=(l'.foldl gD s').1.map Nd.kids/\(l.foldl gD s).2=(l'.foldl gD s').2
 | [],[],s,s',_,_,h1,h2=>⟨h1,h2⟩
 | [],_::_,_,_,h,_,_,_=>by simp at h
 | _::_,[],_,_,h,_,_,_=>by simp at h
 | a::l,b::l',s,s',h,hs,h1,h2=>by
  have h0:pL a b:=hs 0 a b rfl rfl;have c:s.1.length=s'.1.length:=by have:=congrArg List.length h1;simpa using this
  have d:a.length=b.length:=by have:=congrArg List.length h0;simpa using this
  refine Vv (l:=l) (l':=l') (s:=gD s a) (s':=gD s' b) (by simpa using h) (λi p q hp e=>hs (i+1) p q (by simpa using hp) (by simpa using e)) ?_ ?_
  ·simp only[gD,List.map_append,h1,c,List.map_map];congr 1;have key:∀(f:Int->Int) (t:List Nd),t.map (Nd.kids∘lM f)=(t.map Nd.kids).map (List.map f):=by intro f t;simp[lM,wk]
   rw[key,key,h0]
  ·simp only[gD,h2,c,d]
def Vw{n n':Nd}{l l':List (List Nd)}(h:l.length=l'.length)(hs:∀(i:Nat) a b,l[i]?=some a->l'[i]?=some b->pL a b):pL (cM n l) (cM n' l'):=by obtain⟨h1,h2⟩:=Vv (s:=([],[])) (s':=([],[])) h hs rfl rfl;unfold pL cM gK;rw[List.map_append,List.map_append,h1,h2];rfl
def Vx{n n':Nd}{A B:List (List Nd)}{l:List (S×S)}(c:∀t∈A,Fx t)(d:∀t∈B,Fx t)(e:n.op≠3)(f:n.op=n'.op)(g:n.sort=n'.sort)(j:A.length=B.length)(k:n.vars.length=n'.vars.length)(m:n.name=n'.name)
 (o:hK n.vars n'.vars=true)(h:∀(i:Nat) p q,A[i]?=some p->B[i]?=some q->AE p q (l++dI n.vars n'.vars)):AE (cM n A) (cM n' B) l:=by
 have a:=oc n A;have lb:=oc n' B;have r:(cM n A)[(cM n A).length - 1]?=some (wk n (ix 0 A)):=by rw[a,Nat.add_sub_cancel];exact Di
 have s:(cM n' B)[(cM n' B).length - 1]?=some (wk n' (ix 0 B)):=by rw[lb,Nat.add_sub_cancel];exact Di
 unfold AE;rw[a,Gy (x:=wk n (ix 0 A)) (y:=wk n' (ix 0 B)) r s e];refine⟨⟨f,g,by simp only[wk,Au];exact j,k⟩,m,o,λi p q hp b=>?_⟩;rw[Vj c]at hp;rw[Vj d]at b;refine Vr (h i p q hp b) ?_;have:∀{A:List (List Nd)} {i:Nat} {p:List Nd},A[i]?=some p->p.length<=lens A:=by
  intro A
  induction A with
  | nil=>intro i p h;simp at h
  | cons t A ih=>
   intro i p h;cases i with
   | zero=>simp at h;subst h;simp[lens]
   | succ i=>have:=ih (i:=i) (p:=p) (by simpa using h);simp[lens];omega
 exact this hp
def am0{x y s:S}{l:List (S×S)}(h:vm l x y=true):AE (dJ x s) (dJ y s) l:=by show fX 1 _ _ _=true;rw[Mb (x:=⟨3,s,x,[],[]⟩) (y:=⟨3,s,y,[],[]⟩) U U U U U];exact⟨⟨rfl,rfl,rfl,rfl⟩,h⟩
structure PA(F f N M:Nat)(s:S->S)(ts:List Nd)(l:List Bi):Prop where
 pc:PC f N M ts l
 wf:Wf ts
 sd:Sd s ts
 bw:∀p∈l,Wf p.2
def PA.jM{F f N M:Nat}{s:S->S}{ts:List Nd}{l:List Bi}(p:PA F (f+1) N M s ts l){k:List Nd}(a:k∈parts ts):PA F f N M s k l:=⟨p.pc.jM a,p.wf.kids a,p.sd.kids p.wf.fx a,p.bw⟩
def PA.y8{F f N M:Nat}{s:S->S}{ts:List Nd}{l:List Bi}(p:PA F (f+1) N M s ts l){x:Nd}(d:x∈ts){k:List Nd}(c:k∈parts ts):PA F f (N+1000) M s k (rn F (cK ts l) (parts ts) x.vars x.vars.length).2:=by
 obtain⟨h1,h2,h⟩:=p.pc.root d;obtain⟨r1,r2,i,j⟩:=p.pc.rel;have e:=yz (F:=F) (l:=cK ts l) (ks:=parts ts) (vs:=x.vars) r2 h2 (λk c=>(p.pc.part c).2.2.1) x.vars.length;refine⟨p.pc.y8 d c,p.wf.kids c,p.sd.kids p.wf.fx c,λb hb=>?_⟩;rcases e.2 b hb with g | ⟨a,nm,so,rfl,g⟩
 ·exact p.bw b (List.mem_filter.1 g).1
 ·exact Vu
def PA.rn{F f N M:Nat}{s:S->S}{ts:List Nd}{l:List Bi}(c:2000000<=F)(p:PA F (f+1) N M s ts l){x:Nd}(a:x∈ts):
 Ou (cK ts l) (parts ts) x.vars x.vars.length (rn F (cK ts l) (parts ts) x.vars x.vars.length).1 (rn F (cK ts l) (parts ts) x.vars x.vars.length).2:=by
 obtain⟨h1,h2,d⟩:=p.pc.root a;obtain⟨r1,r2,e,g⟩:=p.pc.rel;have:=p.pc.nb;exact amZ r2 h2 (λk b=>(p.pc.part b).2.2.1) (p.sd x a).2.1 (by omega)
def PA.fx{F:Nat}{s:S->S}:∀{f N M:Nat} {ts:List Nd} {l:List Bi},PA F f N M s ts l->Fx (put F f ts l)
 | 0,N,M,ts,l,p=>by have:=p.pc.len;have:=p.wf.fx.pos;omega
 | f+1,N,M,ts,l,p=>by
  have h0:=p.wf.fx.pos;have c:ts[ts.length - 1]'(by omega)∈ts:=bL _;rw[put_eq h0 rfl];split
  ·cases hf:eD (ts[ts.length - 1]'(by omega)).name l with
   | none=>exact p.wf.fx
   | some b=>
    obtain⟨q,h1,h2⟩:=uS hf;exact h2▸(p.bw q h1).fx
  ·split
   ·refine L6 λt ht=>?_;obtain⟨k,a,rfl⟩:=List.mem_map.1 ht;exact(p.y8 c a).fx
   ·refine L6 λt ht=>?_;obtain⟨k,a,rfl⟩:=List.mem_map.1 ht;exact(p.jM a).fx
def Vy{l:List S}(h:l.Nodup):l.reverse.Nodup:=by unfold List.Nodup;rw[List.pairwise_reverse];exact h.imp λe=>e.symm
def am1{vs us:List (S×S)}{x y:S}{l:List (S×S)}(hl:vs.length=us.length)(hv:(vs.map Prod.fst).Nodup)(b:(us.map Prod.fst).Nodup)(h:(x,y)∈dI vs us):vm (l++dI vs us) x y=true:=by have a:=Dk hl;unfold vm;rw[List.reverse_append,wD,Vo (by rw[List.map_reverse,a.1];exact Vy hv) (by rw[List.map_reverse,a.2];exact Vy b) (by simpa using h)]
def am2{z l:List (S×S)}{x y:S}(h:∀p∈z,p.1≠x/\p.2≠y):vm (l++z) x y=vm l x y:=by unfold vm;rw[List.reverse_append,wD,yE.2 λp hp=>h p (by simpa using hp)]
def am3{z l:List (S×S)}{x y:S}(h:vm (l++z) x y=true):(x,y)∈z\/((∀p∈z,p.1≠x/\p.2≠y)/\vm l x y=true):=by
 have h':=h;unfold vm at h;rw[List.reverse_append,wD]at h;cases hf:eC x y z.reverse with
 | some r=>
  rw[hf]at h;have h:r=true:=h;subst h;left;have:=Vn hf;simpa using this
 | none=>
  have b:=yE.1 hf;have a:∀p∈z,p.1≠x/\p.2≠y:=λp hp=>b p (by simpa using hp);right;exact⟨a,by rw[am2 a]at h';exact h'⟩
def uW{a:List Nd}{x:Nd}(b:a[a.length - 1]?=some x):jX a (a.length - 1)=x.vars.map Prod.fst:=by unfold jX;rw[b]
def Md{a:List Nd}{x:Nd}(b:a[a.length - 1]?=some x):dZ a (a.length - 1)=x.op:=by unfold dZ;rw[b]
def Me{F f N M:Nat}{s:S->S}{a:List Nd}{b:List Bi}(g:2000000<=F)(p:PA F (f+1) N M s a b){x:Nd}(d:a[a.length - 1]?=some x)(mx:x∈a)(h:x.op≠3){j:Nat}{v:S×S}(hv:x.vars[j]?=some v):
 ∃w,(rn F (cK a b) (parts a) x.vars x.vars.length).1[j]?=some (w,v.2)/\sK (rn F (cK a b) (parts a) x.vars x.vars.length).2 v.1 (s v.1)=dJ w v.2:=by
 have R:=p.rn g mx;obtain⟨w,h1,h2,i⟩:=R.Ej j v hv;obtain⟨g1,k,l⟩:=i (cZ.1 hv).1;have hm:v∈x.vars:=List.mem_of_getElem? hv;have hb:fM v.1 a=false:=Vc p.wf.fx (by rw[uW d];exact List.mem_map.2 ⟨v,hm,rfl⟩) (by rw[Md d];exact h);have hs:v.2=s v.1:=(p.sd x mx).2.2 v hm;refine⟨w,h1,?_⟩;unfold sK;rw[l,Dn,hb];simp only[mV,if_false];rcases k with ⟨c,e⟩ | ⟨c,e⟩
 ·rw[e,←hs,←c];rfl
 ·rw[c];rfl
def Vz{F f N M:Nat}{s:S->S}{a:List Nd}{b:List Bi}(n:2000000<=F)(p:PA F (f+1) N M s a b){x:Nd}(o:a[a.length - 1]?=some x)(mx:x∈a){k:List Nd}(m:k∈parts a){c:S}(d:fM c k=true)(g:c ∉ x.vars.map Prod.fst):
 fM c a=true/\sK (rn F (cK a b) (parts a) x.vars x.vars.length).2 c (s c)=sK b c (s c)/\Wf (sK b c (s c))/\∀w∈(rn F (cK a b) (parts a) x.vars x.vars.length).1.map Prod.fst,fM w (sK b c (s c))=false:=by
 have R:=p.rn n mx;have h1:fM c a=true:=yC p.wf.fx m d (by rw[uW o];exact g);have h2:eD c (rn F (cK a b) (parts a) x.vars x.vars.length).2=eD c b:=by rw[R.fo c λj v _ hv e=>g (List.mem_map.2 ⟨v,List.mem_of_getElem? hv,e⟩),Dn,ab h1]
 refine⟨h1,by unfold sK;rw[h2],?_,λw r=>?_⟩
 ·unfold sK;cases hf:eD c b with
  | none=>exact Vu
  | some t=>obtain⟨q,i,rfl⟩:=uS hf;exact p.bw q i
 ·obtain⟨⟨w',z⟩,u,rfl⟩:=List.mem_map.1 r;obtain⟨j,hj,e⟩:=fD u;have hlen:=R.len;have hv:x.vars[j]?=some (x.vars[j]'(by omega)):=aX (by omega);obtain⟨D,g1,_,y⟩:=R.Ej j _ hv;have:(rn F (cK a b) (parts a) x.vars x.vars.length).1[j]?=some (w',z):=by rw[aX hj,e]
  rw[this]at g1;injection g1 with g1;injection g1 with g1 E;subst g1;obtain⟨m1,A,_⟩:=y (by omega);unfold sK;cases hf:eD c b with
  | some t=>
   have B:eD c (cK a b)=some t:=by rw[Dn,ab h1,hf]
   obtain⟨q,i,rfl⟩:=uS B;unfold kM at m1;rw[List.any_eq_false]at m1;simpa using m1 q i
  | none=>
   show fM w' (dJ c (s c))=false;rw[←sN];intro h;have he:=((yD (x:=⟨3,s c,c,[],[]⟩) U).1 h).2;have he:c=w':=he;rcases A with ⟨C,_⟩ | ⟨_,l⟩
   ·exact g (List.mem_map.2 ⟨_,List.mem_of_getElem? hv,by rw[he,C]⟩)
   ·unfold wC at l;rw[List.any_eq_false]at l;have:=l k m;rw[he]at d;exact this d
def qH{α β:Type}{g:α->β}{l:List α}{i:Nat}{p:β}(h:(l.map g)[i]?=some p):∃k,l[i]?=some k/\g k=p:=by rw[List.getElem?_map,Option.map_eq_some_iff]at h;exact h
def Mf{F:Nat}(C:2000000<=F){sA sB:S->S}:∀(f:Nat) {N M:Nat} {a b:List Nd} {m n:List Bi} {O ρ':List (S×S)},PA F f N M sA a m->PA F f N M sB b n->AE a b O->(∀x y,fM x a=true->fM y b=true->vm O x y=true->AE (sK m x (sA x)) (sK n y (sB y)) ρ'/\pL (sK m x (sA x)) (sK n y (sB y)))->AE (put F f a m) (put F f b n) ρ'/\pL (put F f a m) (put F f b n)
 | 0,N,M,a,b,m,n,O,ρ',g,l,h,H=>by have:=g.pc.len;have:=g.wf.fx.pos;omega
 | f+1,N,M,a,b,m,n,O,ρ',g,l,h,H=>by
  obtain⟨x,G,mx⟩:=g.wf.fx.root;obtain⟨y,I,D⟩:=l.wf.fx.root;have ha0:=g.wf.fx.pos;have gY:=l.wf.fx.pos;have ex:a[a.length - 1]'(by omega)=x:=(cZ.1 G).2;have ey:b[b.length - 1]'(by omega)=y:=(cZ.1 I).2;obtain⟨r,hr⟩:∃r,a.length=r+1:=⟨a.length - 1,by omega⟩;unfold AE at h;rw[hr]at h;rw[put_eq ha0 ex,put_eq gY ey];by_cases s:x.op=3
  ·obtain⟨P,J⟩:=(g.wf.nv x mx).1 s;rw[Mb G I s P J]at h;obtain⟨⟨u1,u2,u3,u4⟩,hv⟩:=h;have A:y.op=3:=by rw[←u1];exact s
   obtain⟨T,U⟩:=(l.wf.nv y D).1 A;rw[ab s,ab A];have ea:=g.wf.fx.one G P;have eb:=l.wf.fx.one I T;have ea':a=dJ x.name (sA x.name):=by rw[ea,←(g.sd x mx).1 s];obtain⟨o,so,nm,vs,ks⟩:=x;simp only at s P J;subst s;subst P;subst J;rfl
   have eb':b=dJ y.name (sB y.name):=by rw[eb,←(l.sd y D).1 A];obtain⟨o,so,nm,vs,ks⟩:=y;simp only at A T U;subst A;subst T;subst U;rfl
   have:=H x.name y.name (by rw[ea];exact(yD P).2 ⟨s,rfl⟩) (by rw[eb];exact(yD T).2 ⟨A,rfl⟩) hv;unfold sK at this;rw[←ea',←eb']at this;exact this
  ·rw[Gy G I s]at h;obtain⟨⟨u1,u2,u3,u4⟩,hn,hs,B⟩:=h;have A:y.op≠3:=by rw[←u1];exact s
   have VA:∀(i:Nat) p q,(parts a)[i]?=some p->(parts b)[i]?=some q->AE p q (O++dI x.vars y.vars):=λi p q hp E=>
    Vs _ (g.wf.kids (List.mem_of_getElem? hp)).fx (l.wf.kids (List.mem_of_getElem? E)).fx (B i p q hp E)
   have V:(parts a).length=(parts b).length:=by rw[Am ha0,Am gY,ex,ey];exact u3
   rw[Γ s,Γ A];by_cases E:x.op=17\/x.op=18
   ·have W:y.op=17\/y.op=18:=by rw[←u1];exact E
    rw[ab E,ab W];have Ra:=g.rn C mx;have Rb:=l.rn C D;have hz:=Dk u4;have el:(rn F (cK a m) (parts a) x.vars x.vars.length).1.length=(rn F (cK b n) (parts b) y.vars y.vars.length).1.length:=by rw[Ra.len,Rb.len];exact u4
    have hz':=Dk el;have key:∀(i:Nat) p q,(parts a)[i]?=some p->(parts b)[i]?=some q->AE (put F f p (rn F (cK a m) (parts a) x.vars x.vars.length).2) (put F f q (rn F (cK b n) (parts b) y.vars y.vars.length).2) (ρ'++dI (rn F (cK a m) (parts a) x.vars x.vars.length).1 (rn F (cK b n) (parts b) y.vars y.vars.length).1)/\pL (put F f p (rn F (cK a m) (parts a) x.vars x.vars.length).2) (put F f q (rn F (cK b n) (parts b) y.vars y.vars.length).2):=by
     intro i p q hp z;have Q:=List.mem_of_getElem? hp;have R:=List.mem_of_getElem? z;refine Mf C f (g.y8 mx Q) (l.y8 D R) (VA i p q hp z) λc d hc hd hv=>?_;rcases am3 hv with oi | ⟨VB,eO⟩
     ·obtain⟨j,v,u,X,Y,rfl,rfl⟩:=Gv oi;obtain⟨w,b1,b2⟩:=Me C g G mx s X;obtain⟨w',c1,c2⟩:=Me C l I D A Y;have hvu:=Ma hs X Y;rw[b2,c2,←hvu];exact⟨am0 (am1 el Ra.L9 Rb.L9 (Vp b1 c1)),rfl⟩
     ·have nc:c ∉ x.vars.map Prod.fst:=by
       rw[←hz.1];intro h;obtain⟨p,hp,e⟩:=List.mem_map.1 h;exact(VB p hp).1 e
      have nd:d ∉ y.vars.map Prod.fst:=by rw[←hz.2];intro h;obtain⟨p,hp,e⟩:=List.mem_map.1 h;exact(VB p hp).2 e
      obtain⟨X,Y,a3,a4⟩:=Vz C g G mx Q hc nc;obtain⟨b1,b2,b3,b4⟩:=Vz C l I D R hd nd;obtain⟨H1,H2⟩:=H c d X b1 eO;rw[Y,b2];refine⟨?_,H2⟩;have:=Vt (l1:=ρ') (d:=dI (rn F (cK a m) (parts a) x.vars x.vars.length).1 (rn F (cK b n) (parts b) y.vars y.vars.length).1) (l2:=[]) _ a3 b3 (λp hp=>?_) (by rw[List.append_nil];exact H1)
      ·rw[List.append_nil]at this;exact this
      ·have e1:p.1∈(rn F (cK a m) (parts a) x.vars x.vars.length).1.map Prod.fst:=by rw[←hz'.1];exact List.mem_map.2 ⟨p,hp,rfl⟩
       have e2:p.2∈(rn F (cK b n) (parts b) y.vars y.vars.length).1.map Prod.fst:=by rw[←hz'.2];exact List.mem_map.2 ⟨p,hp,rfl⟩
       exact⟨λe=>(by rw[a4 _ e1]at e;cases e),λe=>(by rw[b4 _ e2]at e;cases e)⟩
    constructor
    ·refine Vx (λt ht=>?_) (λt ht=>?_) s u1 u2 (by simpa using V) el hn (Gw λj v u hv hu=>?_) λi p q hp z=>?_
     ·obtain⟨k,B,rfl⟩:=List.mem_map.1 ht;exact(g.y8 mx B).fx
     ·obtain⟨k,B,rfl⟩:=List.mem_map.1 ht;exact(l.y8 D B).fx
     ·simp only at hv hu;have hj:=(cZ.1 hv).1;have bR:=(cZ.1 hu).1;have l1:=Ra.len;have l2:=Rb.len;have v1:x.vars[j]?=some (x.vars[j]'(by omega)):=aX (by omega);have v2:y.vars[j]?=some (y.vars[j]'(by omega)):=aX (by omega);obtain⟨w,g1,_⟩:=Ra.Ej j _ v1;obtain⟨w',Z,_⟩:=Rb.Ej j _ v2;rw[hv]at g1;rw[hu]at Z;injection g1 with g1;injection Z with Z;have:=Ma hs v1 v2;rw[g1,Z];exact this
     ·obtain⟨k,K,rfl⟩:=qH hp;obtain⟨k',L,rfl⟩:=qH z;exact(key i k k' K L).1
    ·refine Vw (by simpa using V) λi p q hp z=>?_;obtain⟨k,K,rfl⟩:=qH hp;obtain⟨k',L,rfl⟩:=qH z;exact(key i k k' K L).2
   ·have W:¬ (y.op=17\/y.op=18):=by rw[←u1];exact E
    rw[Γ E,Γ W];have J:=(g.wf.nv x mx).2 E;have U:=(l.wf.nv y D).2 W;have key:∀(i:Nat) p q,(parts a)[i]?=some p->(parts b)[i]?=some q->AE (put F f p m) (put F f q n) ρ'/\pL (put F f p m) (put F f q n):=by
     intro i p q hp z;have Q:=List.mem_of_getElem? hp;have R:=List.mem_of_getElem? z;have ZA:=VA i p q hp z;rw[J,dI]at ZA
     ·rw[List.append_nil]at ZA;exact Mf C f (g.jM Q) (l.jM R) ZA λc d hc hd hv=>H c d (yC g.wf.fx Q hc (by rw[uW G,J];simp)) (yC l.wf.fx R hd (by rw[uW I,U];simp)) hv
     ·simp
    constructor
    ·refine Vx (λt ht=>?_) (λt ht=>?_) s u1 u2 (by simpa using V) u4 hn hs λi p q hp z=>?_
     ·obtain⟨k,B,rfl⟩:=List.mem_map.1 ht;exact(g.jM B).fx
     ·obtain⟨k,B,rfl⟩:=List.mem_map.1 ht;exact(l.jM B).fx
     ·obtain⟨k,K,rfl⟩:=qH hp;obtain⟨k',L,rfl⟩:=qH z;have:=(key i k k' K L).1;rw[J,dI]
      ·rw[List.append_nil];exact this
      ·simp
    ·refine Vw (by simpa using V) λi p q hp z=>?_;obtain⟨k,K,rfl⟩:=qH hp;obtain⟨k',L,rfl⟩:=qH z;exact(key i k k' K L).2
def VC{a b:List Nd}(h:∀i,bO a i=bO b i):∀m,fl a m=fl b m
 | 0=>rfl
 | m+1=>by rw[fl,fl,VC h m];unfold Ak;rw[h]
def Gz{a b:List Nd}(h:∀i,bO a i=bO b i)(i:Nat):fs a i=fs b i:=by unfold fs;rw[VC h]
def am6{a b:List Nd}(h:∀i,bO a i=bO b i)(i:Nat):ord a i=ord b i:=by unfold ord;rw[h,show fs a=fs b from funext λi=>Gz h i]
def rV{a b:List Nd}(h:pL a b):a.length=b.length/\∀i,bO a i=bO b i:=by
 have hl:a.length=b.length:=by have:=congrArg List.length h;simpa using this
 refine⟨hl,λi=>?_⟩;have:(a.map Nd.kids)[i]?=(b.map Nd.kids)[i]?:=by rw[h]
 rw[List.getElem?_map,List.getElem?_map]at this;unfold bO;cases c:a[i]? with
 | none=>rw[c]at this;cases hb:b[i]? with
  | none=>rfl
  | some y=>rw[hb]at this;cases this
 | some x=>rw[c]at this;cases hb:b[i]? with
  | none=>rw[hb]at this;cases this
  | some y=>rw[hb]at this;injection this
def VD{a b:List Nd}(h:pL a b):∀m,dl a m=dl b m
 | 0=>by simp[dl]
 | m+1=>by have:=(rV h).2;have ih:=VD h m;simp only[dl,this,ih]
def Mg{a b:List Nd}(h:pL a b):rN a=rN b:=by unfold rN;rw[(rV h).1,VD h]
def am7{a b:List Nd}(h:pL a b)(g:Fx a):Fx b:=by obtain⟨h1,h2⟩:=rV h;exact⟨by rw[←h1];exact g.pos,λj hj=>by rw[←am6 h2];exact g.ord j (by omega),by rw[←h1,←Gz h2];exact g.z⟩
def VE:∀(m:Nat) {a:List Nd} {l:List (S×S)},Fx a->a.length<=m->(∀p∈l,p.1=p.2)->fX m a a l=true
 | 0,a,l,g,h,_=>by have:=g.pos;omega
 | m+1,a,l,g,h,hl=>by
  obtain⟨x,f,mx⟩:=g.root;rw[Dl f f,show iU x x=false from Gx.2 ⟨rfl,rfl,rfl,rfl⟩];simp only[mV,if_false,if_true];have hs:hK x.vars x.vars=true:=Gw λj v u h1 h2=>by rw[h1]at h2;injection h2 with h2;rw[h2]
  have d:nU (λp q=>fX m p q (l++dI x.vars x.vars)) (parts a) (parts a)=true:=Av.2 λi p q hp c=>by
   rw[hp]at c;injection c with c;subst c;obtain⟨k1,k2,_⟩:=g.kids (List.mem_of_getElem? hp);refine VE m k1 (by omega) λr b=>?_;rcases eG.1 b with b | b
   ·exact hl r b
   ·obtain⟨j,v,u,h1,h2,k,n⟩:=Gv (x:=r.1) (y:=r.2) b;rw[h1]at h2;injection h2 with h2;rw[←k,←n,h2]
  split
  ·rename_i r b;split at b
   ·have key:∀{z:List (S×S)} {r:Bool},(∀p∈z,p.1=p.2)->eC x.name x.name z=some r->r=true:=by
     intro z
     induction z with
     | nil=>intro r _ h;cases h
     | cons p z ih=>
      intro r d h;simp only[eC]at h;split at h
      ·rename_i o;have:=d p (by simp);injection h with h;rw[←h,decide_eq_true_iff];rcases o with e | e
       ·exact⟨e,by rw[←this];exact e⟩
       ·exact⟨by rw[this];exact e,e⟩
      ·exact ih (λq c=>d q (by simp[c])) h
    exact key (λp hp=>hl p (by simpa using hp)) b
   ·cases b
  ·rw[hs];simp[d]
def Mh{a:List Nd}(g:Fx a):AE a a []:=VE _ g (ξ _) λp hp=>by cases hp
def eU(o w:S)(x:Nd):Nd:=if x.op=3/\x.name=o then { x with name:=w} else x
def rW(o w:S)(x:Nd):(eU o w x).op=x.op/\(eU o w x).sort=x.sort/\(eU o w x).vars=x.vars/\(eU o w x).kids=x.kids:=by unfold eU;split<;>exact⟨rfl,rfl,rfl,rfl⟩
def VF(o w:S)(f:Nat)(x:Nd):eU o w (ma f x)=ma f (eU o w x):=by unfold eU ma;simp only;split<;>rfl
def VG(o w:S)(p:List Nd):pL p (p.map (eU o w)):=by unfold pL;rw[List.map_map];exact List.map_congr_left λx _=>(rW o w x).2.2.2.symm
def am8{o w:S}{p:List Nd}{i:Nat}(hi:i<p.length):part (p.map (eU o w)) i=(part p i).map (eU o w):=by have hs:=(rV (VG o w p)).2;have hf:=Gz hs i;unfold part;rw[←hf,←List.map_drop,←List.map_take,List.map_map,List.map_map];exact List.map_congr_left λx _=>(VF o w _ x).symm
def am9{o w:S}{p:List Nd}(g:Fx p):parts (p.map (eU o w))=(parts p).map (List.map (eU o w)):=by have hp:=g.pos;unfold parts;rw[ji,←(rV (VG o w p)).2,List.map_map];refine List.map_congr_left λk a=>?_;have:=jL (g.ord _ (show p.length - 1<p.length by omega)) k a;exact am8 (by omega)
def VH{o w:S}(E:o≠w):∀(m:Nat) {p:List Nd} {l:List (S×S)},Fx p->p.length<=m->(∀x∈p,(x.op=3->x.name≠w)/\∀v∈x.vars,v.1≠o/\v.1≠w)->(∀r∈l,r.1=r.2/\r.1≠o/\r.1≠w)->fX m p (p.map (eU o w)) ((o,w)::l)=true
 | 0,p,l,g,h,_,_=>by have:=g.pos;omega
 | m+1,p,l,g,h,B,hl=>by
  obtain⟨x,C,mx⟩:=g.root;have t:(p.map (eU o w))[(p.map (eU o w)).length - 1]?=some (eU o w x):=by rw[ji,List.getElem?_map,C];rfl
  obtain⟨F,G,A,H⟩:=rW o w x;obtain⟨n1,I⟩:=B x mx;rw[Dl C t,show iU x (eU o w x)=false from Gx.2 ⟨F.symm,G.symm,by rw[H],by rw[A]⟩];simp only[mV,if_false];have hs:hK x.vars (eU o w x).vars=true:=by rw[A];exact Gw λj v u h1 h2=>by rw[h1]at h2;injection h2 with h2;rw[h2]
  have d:nU (λp q=>fX m p q ((o,w)::l++dI x.vars (eU o w x).vars)) (parts p) (parts (p.map (eU o w)))=true:=Av.2 λi a b D hb=>by
   rw[am9 g]at hb;obtain⟨k,n,rfl⟩:=qH hb;rw[D]at n;injection n with n;subst n;obtain⟨k1,k2,k3⟩:=g.kids (List.mem_of_getElem? D);refine VH E m (l:=l++dI x.vars (eU o w x).vars) k1 (by omega) (λy t=>?_) λr c=>?_
   ·obtain⟨z,d,g1,P,J,K,_⟩:=k3 y t;rw[g1,J,K];exact B z d
   ·rcases eG.1 c with c | c
    ·exact hl r c
    ·rw[A]at c;obtain⟨j,v,u,h1,h2,f,L⟩:=Gv (x:=r.1) (y:=r.2) c;rw[h1]at h2;injection h2 with h2;subst h2;have:=I v (List.mem_of_getElem? h1);exact⟨by rw[←f,←L],by rw[←f];exact this.1,by rw[←f];exact this.2⟩
  by_cases f:x.op=3
  ·rw[ab f];by_cases s:x.name=o
   ·have:(eU o w x).name=w:=by unfold eU;rw[ab ⟨f,s⟩]
    rw[this,s,List.reverse_cons,wD,yE.2 λr c=>by have:=hl r (by simpa using c);exact⟨this.2.1,by rw[←this.1];exact this.2.2⟩]
    simp[eC]
   ·have:eU o w x=x:=by unfold eU;rw[Γ λh=>s h.2]
    have M:=n1 f;rw[this]at d hs ⊢;rw[List.reverse_cons,wD];cases hf:eC x.name x.name l.reverse with
    | some r=>
     have key:∀{z:List (S×S)} {r:Bool},(∀p∈z,p.1=p.2)->eC x.name x.name z=some r->r=true:=by
      intro z
      induction z with
      | nil=>intro r _ h;cases h
      | cons p z ih=>
       intro r d h;simp only[eC]at h;split at h
       ·rename_i N;have:=d p (by simp);injection h with h;rw[←h,decide_eq_true_iff];rcases N with e | e
        ·exact⟨e,by rw[←this];exact e⟩
        ·exact⟨by rw[this];exact e,e⟩
       ·exact ih (λq O=>d q (by simp[O])) h
     exact key (λr c=>(hl r (by simpa using c)).1) hf
    | none=>
     have:eC x.name x.name [(o,w)]=none:=yE.2 λr c=>by simp at c;subst c;exact⟨λe=>s e.symm,λe=>M e.symm⟩
     rw[this];simp[hs];exact d
  ·rw[Γ f];have:eU o w x=x:=by unfold eU;rw[Γ λh=>f h.1]
   rw[this]at d hs ⊢;simp[hs];exact d
def fi(o w:S)(ts:List Nd):List Nd:=match ts.getLast? with
 | some x=>ts.dropLast.map (eU o w)++[{ x with vars:=x.vars.map λv=>(w,v.2)}]
 | none=>ts
def GB{o w:S}{ts:List Nd}{x:Nd}(a:ts[ts.length - 1]?=some x):fi o w ts=ts.dropLast.map (eU o w)++[{ x with vars:=x.vars.map λv=>(w,v.2)}]:=by unfold fi;rw[List.getLast?_eq_getElem?,a]
def wE{o w:S}{ts:List Nd}(g:Fx ts):(fi o w ts).length=ts.length:=by obtain⟨x,a,_⟩:=g.root;have:=g.pos;rw[GB a];simp;omega
def Dp{o w:S}{ts:List Nd}(g:Fx ts){i:Nat}(hi:i+1<ts.length):(fi o w ts)[i]?=(ts[i]?).map (eU o w):=by obtain⟨x,a,_⟩:=g.root;rw[GB a,oT (by simp;omega),List.getElem?_map,List.getElem?_dropLast,ab (by omega)]
def Aw{o w:S}{ts:List Nd}{x:Nd}(g:Fx ts)(a:ts[ts.length - 1]?=some x):(fi o w ts)[ts.length - 1]?=some { x with vars:=x.vars.map λv=>(w,v.2)}:=by rw[GB a,qc (by simp)];simp
def GC{o w:S}{ts:List Nd}(g:Fx ts):pL ts (fi o w ts):=by
 obtain⟨x,a,_⟩:=g.root;have hp:=g.pos;unfold pL;apply List.ext_getElem?;intro i;rw[List.getElem?_map,List.getElem?_map];by_cases h1:i+1<ts.length
 ·rw[Dp g h1];cases ts[i]? with
  | none=>rfl
  | some y=>simp[(rW o w y).2.2.2]
 ·by_cases h2:i=ts.length - 1
  ·subst h2;rw[Aw g a,a];rfl
  ·rw[ml (by omega),ml (by rw[wE g];omega)]
def ana{o w:S}{ts:List Nd}(g:Fx ts){k:Nat}(c:k+1<ts.length):part (fi o w ts) k=(part ts k).map (eU o w):=by
 have hs:=(rV (GC (o:=o) (w:=w) g)).2;have hf:=Gz hs k;have h1:k<ts.length:=by omega
 have h2:k<(fi o w ts).length:=by rw[wE g];exact h1
 have l1:=hJ h1;have l2:=hJ h2;have hle:=fw ts k;apply qg (by simp;omega);intro j g1 a;rw[nT h2 g1,List.getElem_map,nT h1 (by simpa using a),VF];have hj:fs ts k+j+1<ts.length:=by omega
 have:=Dp (o:=o) (w:=w) g hj;rw[aX (show fs ts k+j<ts.length by omega)]at this;obtain⟨d,b⟩:=cZ.1 this;simp only[←hf];rw[b]
def anb{o w:S}{ts:List Nd}(g:Fx ts):parts (fi o w ts)=(parts ts).map (List.map (eU o w)):=by have hp:=g.pos;unfold parts;rw[wE g,←(rV (GC g)).2,List.map_map];refine List.map_congr_left λk a=>?_;have:=jL (g.ord _ (show ts.length - 1<ts.length by omega)) k a;exact ana g (by omega)
def ane{o w:S}{ts:List Nd}(g:Fx ts)(n:o≠w){x:Nd}(f:ts[ts.length - 1]?=some x)(s:x.op≠3){so:S}(hv:x.vars=[(o,so)])
 (t:∀y∈ts,(y.op=3->y.name≠w))(hb:∀i,i+1<ts.length->∀y,ts[i]?=some y->∀v∈y.vars,v.1≠o/\v.1≠w):AE ts (fi o w ts) []:=by
 have hp:=g.pos;obtain⟨r,d⟩:∃r,ts.length=r+1:=⟨ts.length - 1,by omega⟩;unfold AE;have a:(fi o w ts)[(fi o w ts).length - 1]?=some { x with vars:=x.vars.map λv=>(w,v.2)}:=by rw[wE g];exact Aw g f
 rw[d,Gy f a s];refine⟨⟨rfl,rfl,rfl,by simp⟩,rfl,by rw[hv];simp[hK],λi p q h l=>?_⟩;rw[anb g]at l;obtain⟨k,b,rfl⟩:=qH l;rw[h]at b;injection b with b;subst b;have hm:=List.mem_of_getElem? h;obtain⟨k1,k2,k3⟩:=g.kids hm;rw[hv];show fX r p _ ((o,w)::[])=true;refine VH n r k1 (by omega) (λy a=>?_) λr d=>by cases d
 obtain⟨z,u,g1,C,A,D,_⟩:=k3 y a;refine⟨λe=>by rw[A];exact t z u (g1▸e),?_⟩;unfold parts at hm;obtain⟨c,B,rfl⟩:=List.mem_map.1 hm;have h0:=jL (g.ord _ (show ts.length - 1<ts.length by omega)) c B;obtain⟨j,hj,e⟩:=fD a;have m:c.toNat<ts.length:=by omega
 rw[nT m hj]at e;have E:=hJ m;have hle:=fw ts c.toNat;have:=hb (fs ts c.toNat+j) (by omega) _ (aX (by omega));rw[←e];exact this
section
def pig:∀(n:Nat) (f:Nat->Nat),(∀i,i<=n->f i<n)->∃i j,i<j/\j<=n/\f i=f j
 | 0,f,h=>by have:=h 0 (ξ _);omega
 | n+1,f,h=>by
  by_cases a:∃i,i<=n/\f i=f (n+1)
  ·obtain⟨i,h1,h2⟩:=a;exact⟨i,n+1,by omega,ξ _,h2⟩
  ·have c:=h (n+1) (ξ _);obtain⟨i,j,h1,h2,b⟩:=pig n (λi=>if f i<f (n+1) then f i else f i - 1) λi hi=>by
    have h1:=h i (by omega);have h2:f i≠f (n+1):=λe=>a ⟨i,hi,e⟩;split<;>omega
   have d:f i≠f (n+1):=λe=>a ⟨i,by omega,e⟩;have g:f j≠f (n+1):=λe=>a ⟨j,by omega,e⟩;refine⟨i,j,h1,by omega,?_⟩;split at b<;>split at b<;>omega
def pr(n:Nat):S:=List.replicate n 39
def VI(n:Nat):(pr n).length=n:=by simp[pr]
def GD(s:S)(n:Nat):(s++[39])++pr n=s++pr (n+1):=by simp[pr,xo]
def ang{v:S}{a b n:Nat}(c:n<=v.length+a)(hb:n<=v.length+b):(v++pr a).take n=(v++pr b).take n:=by rw[List.take_append,List.take_append];unfold pr;rw[List.take_replicate,List.take_replicate,qf (by omega),qf (by omega)]
def VJ{l:List Bi}{vs:List (S×S)}{ks:List (List Nd)}:∀(k F:Nat) (s:S),taken l vs ks (s++pr k)=false->k<=F->∃k',k'<=k/\fresh l vs ks F s=s++pr k'
 | 0,F,s,h,_=>by
  simp only[pr,List.replicate_zero,List.append_nil]at h;refine⟨0,ξ _,?_⟩;cases F with
  | zero=>simp[fresh,pr]
  | succ F=>simp[fresh,h,pr]
 | k+1,0,s,h,a=>by omega
 | k+1,F+1,s,h,a=>by
  unfold fresh;split
  ·rw[←GD]at h;obtain⟨k',h1,h2⟩:=VJ k F (s++[39]) h (by omega);exact⟨k'+1,by omega,by rw[h2,GD]⟩
  ·exact⟨0,by omega,by simp[pr]⟩
def Nl(s:S):Prop:=s≠[]/\s.length<=100/\s.all yg=true
structure BS(l:List Bi):Prop where
 nd:(l.map Prod.fst).Nodup
 en:∀p∈l,Nl p.1/\(hY 100 p.2\/∃k s,p.2=dJ (p.1++pr (k+1)) s/\(p.1++pr (k+1)).length<=200)
def anh{l:List Bi}(h:(l.map Prod.fst).Nodup){p q:Bi}(hp:p∈l)(a:q∈l)(e:p.1=q.1):p=q:=by
 obtain⟨i,hi,rfl⟩:=fD hp;obtain⟨j,hj,rfl⟩:=fD a;have key:∀i j (hi:i<l.length) (hj:j<l.length),l[i].1=l[j].1->¬ i<j:=λi j hi hj e b=>by have:=List.pairwise_iff_getElem.1 h i j (by simpa using hi) (by simpa using hj) b;simp only[List.getElem_map]at this;exact this e
 have k1:=key i j hi hj e;have k2:=key j i hj hi e.symm;have:i=j:=by omega
 subst this;rfl
structure Pl(l:List Bi)(vs:List (S×S))(i:Nat)(us:List (S×S))(m:List Bi):Prop where
 at':∀j v,vs[j]?=some v->∃w,us[j]?=some (w,v.2)/\(i<=j->w=v.1)/\(w=v.1\/∃k,w=v.1++pr (k+1)/\w.length<=200)
 len:us.length=vs.length
 ext:∃e,m=l++e/\(e.map Prod.fst).Nodup/\∀p∈e,∃(j:Nat) (v:S×S),j<i/\vs[j]?=some v/\p.1=v.1/\∃k s,p.2=dJ (v.1++pr (k+1)) s/\(v.1++pr (k+1)).length<=200
section
variable {l:List Bi}{ks:List (List Nd)}{vs us:List (S×S)}{m:List Bi}
def ani(b:BS l)(t:∀k∈ks,hY 100 k)(hv:∀v∈vs,Nl v.1){i:Nat}(p:Pl l vs i us m){c:S}(a:100<c.length)(h:taken l us ks c=true):
 (∃q∈l,∃k s,q.2=dJ (q.1++pr (k+1)) s/\c=q.1++pr (k+1))\/∃(j:Nat) (v:S×S),j<i/\vs[j]?=some v/\us[j]?=some (c,v.2)/\∃k,c=v.1++pr (k+1):=by
 unfold taken at h;rw[mX,mX]at h;rcases h with (h | h) | h
 ·left;unfold kM at h;obtain⟨q,n,h⟩:=List.any_eq_true.1 h;refine⟨q,n,?_⟩;rcases(b.en q n).2 with g | ⟨k,s,e,_⟩
  ·rw[Gh g a]at h;cases h
  ·refine⟨k,s,e,?_⟩;rw[e]at h;exact((yD (x:=⟨3,s,q.1++pr (k+1),[],[]⟩) U).1 h).2.symm
 ·right;rw[decide_eq_true_iff]at h;obtain⟨⟨c',z⟩,u,rfl⟩:=List.mem_map.1 h;obtain⟨j,hj,e⟩:=fD u;have hl:=p.len;have f:vs[j]?=some (vs[j]'(by omega)):=aX (by omega);obtain⟨w,g1,y,d⟩:=p.at' j _ f;have o:=hv _ (List.mem_of_getElem? f);have r:us[j]?=some (c',z):=by rw[aX hj,e]
  rw[r]at g1;injection g1 with g1;injection g1 with g1 A;subst g1;refine⟨j,_,?_,f,by rw[r,A],?_⟩
  ·by_cases B:j<i
   ·exact B
   ·have:=y (by omega);have a:100<c'.length:=a;rw[this]at a;have:=o.2.1;omega
  ·rcases d with d | ⟨k,d,_⟩
   ·have a:100<c'.length:=a;rw[d]at a;have:=o.2.1;omega
   ·exact⟨k,d⟩
 ·unfold wC at h;obtain⟨k,C,h⟩:=List.any_eq_true.1 h;rw[Gh (t k C) a]at h;cases h
def anj(b:BS l)(y:∀p∈l,p.1 ∉ vs.map Prod.fst)(x:∀k∈ks,hY 100 k)(hv:∀v∈vs,Nl v.1)(E:(vs.map Prod.fst).Nodup){i:Nat}(p:Pl l vs i us m){v:S×S}(z:vs[i]?=some v){F:Nat}(hF:200<=F):
 ∃k,fresh l us ks F (v.1++[39])=v.1++pr (k+1)/\(v.1++pr (k+1)).length<=200:=by
 have G:=hv v (List.mem_of_getElem? z);have h1:0<v.1.length:=List.length_pos_iff.2 G.1;have h2:=G.2.1;by_cases H:∃k,k<100/\taken l us ks (v.1++pr (101 - v.1.length+k))=false
 ·obtain⟨k,sF,I⟩:=H;have e:101 - v.1.length+k=(100 - v.1.length+k)+1:=by omega
  rw[e,←GD]at I;obtain⟨k',g1,O⟩:=VJ _ F _ I (by omega);exact⟨k',by rw[O,GD],by simp[VI];omega⟩
 ·exfalso;have ht:∀k,k<100->taken l us ks (v.1++pr (101 - v.1.length+k))=true:=λk x=>by
   cases P:taken l us ks (v.1++pr (101 - v.1.length+k)) with
   | true=>rfl
   | false=>exact absurd ⟨k,x,P⟩ H
  let C:Nat->S:=λk=>v.1++pr (101 - v.1.length+k);have A:∀k,(C k).length=101+k:=λk=>by simp only[C,jz,VI];omega
  let Src:S->S->Prop:=λc w=>(∃q∈l,q.1=w/\∃k s,q.2=dJ (q.1++pr (k+1)) s/\c=q.1++pr (k+1))\/∃(j:Nat) (u:S×S),j<i/\vs[j]?=some u/\u.1=w/\us[j]?=some (c,u.2);have src:∀k,k<100->∃w,Src (C k) w/\(∃a,C k=w++pr (a+1))/\0<w.length/\w.length<=100/\w≠v.1:=λk Q=>by
   rcases ani b x hv p (by rw[A];omega) (ht k Q) with ⟨q,o,a,s,d,f⟩ | ⟨j,u,hj,d,f,a,R⟩
   ·have:=(b.en q o).1;exact⟨q.1,.inl ⟨q,o,rfl,a,s,d,f⟩,⟨a,f⟩,List.length_pos_iff.2 this.1,this.2.1,λe=>y q o (List.mem_map.2 ⟨v,List.mem_of_getElem? z,e.symm⟩)⟩
   ·have:=hv u (List.mem_of_getElem? d);exact⟨u.1,.inr ⟨j,u,hj,d,rfl,f⟩,⟨a,R⟩,List.length_pos_iff.2 this.1,this.2.1,λe=>by have:=Dj E d z e;omega⟩
  have uniq:∀c c' w,Src c w->Src c' w->c=c':=by
   rintro c c' w (⟨q,o,rfl,a,s,d,f⟩ | ⟨j,u,hj,d,rfl,f⟩) (⟨T,J,g,a',s',r,t⟩ | ⟨j',U,bR,r,g,t⟩)
   ·have:=anh b.nd o J g.symm;subst this;rw[d]at r;have:(q.1++pr (a+1))=(q.1++pr (a'+1)):=by
     simp only[dJ,List.cons.injEq,Nd.mk.injEq,and_true,true_and]at r;exact r.2
    rw[f,t,this]
   ·exact absurd (List.mem_map.2 ⟨U,List.mem_of_getElem? r,g⟩) (y q o)
   ·exact absurd (List.mem_map.2 ⟨u,List.mem_of_getElem? d,g.symm⟩) (y T J)
   ·have:=Dj E d r g.symm;subst this;rw[f]at t;injection t with t;injection t
  have pre:∀k w a,C k=w++pr (a+1)->w.length<=100->w=(v.1++pr 100).take w.length:=λk w a e K=>by
   have d:(C k).take w.length=w:=by rw[e];simp
   have V:C k=v.1++pr (101 - v.1.length+k):=rfl;rw[V]at d;rw[←ang (v:=v.1) (a:=101 - v.1.length+k) (b:=100) (n:=w.length) (by omega) (by omega)];exact d.symm
  have hex:∀k,∃w,k<100->Src (C k) w/\(∃a,C k=w++pr (a+1))/\0<w.length/\w.length<=100/\w≠v.1:=λk=>by
   by_cases h:k<100
   ·obtain⟨w,K⟩:=src k h;exact⟨w,λ_=>K⟩
   ·exact⟨[],λh'=>absurd h' h⟩
  obtain⟨W,B⟩:=Classical.axiomOfChoice hex;obtain⟨a,c,hac,hc,he⟩:=pig 100 (λk=>if k<100 then (W k).length - 1 else v.1.length - 1) λk x=>by
   split
   ·rename_i h;have:=B k h;omega
   ·omega
  have L:a<100:=by omega
  simp only[ab L]at he;obtain⟨s1,⟨a1,X⟩,l1,l2,n1⟩:=B a L;have M:=pre a _ _ X l2;by_cases D:c<100
  ·rw[ab D]at he;obtain⟨N,⟨a2,Y⟩,l3,l4,n2⟩:=B c D;have Z:=pre c _ _ Y l4;have:W a=W c:=by rw[M,Z,show(W a).length=(W c).length by omega]
   rw[←this]at N;have:=congrArg List.length (uniq _ _ _ s1 N);rw[A,A]at this;omega
  ·rw[Γ D]at he;apply n1;rw[M,show(W a).length=v.1.length by omega];simp
def VK(b:BS l)(g:∀p∈l,p.1 ∉ vs.map Prod.fst)(n:∀k∈ks,hY 100 k)(hv:∀v∈vs,Nl v.1)(d:(vs.map Prod.fst).Nodup){F:Nat}(o:200<=F):
 ∀i,i<=vs.length->Pl l vs i (rn F l ks vs i).1 (rn F l ks vs i).2
 | 0,_=>⟨λj v h=>⟨v.1,h,λ_=>rfl,.inl U⟩,rfl,[],(List.append_nil _).symm,by simp,λp hp=>by cases hp⟩
 | i+1,hi=>by
  have ih:=VK b g n hv d o i (by omega);show Pl l vs (i+1) (xh F l ks (rn F l ks vs i) i).1 (xh F l ks (rn F l ks vs i) i).2;generalize rn F l ks vs i=s at ih;obtain⟨us,m⟩:=s;have a:vs[i]?=some vs[i]:=aX (by omega);obtain⟨w,q,t,D⟩:=ih.at' i _ a;have u:=t (ξ _);subst u;unfold xh;simp only at q ih ⊢;rw[q];simp only;by_cases hm:kM vs[i].1 l=true
  ·rw[ab hm];obtain⟨k,f1,f2⟩:=anj b g n hv d ih a o;rw[f1];refine⟨λj v hj=>?_,by simpa using ih.len,?_⟩
   ·by_cases e:j=i
    ·subst e;rw[a]at hj;injection hj with hj;subst hj;exact⟨_,by rw[List.getElem?_set_self (by rw[ih.len];omega)],λh=>by omega,.inr ⟨k,rfl,f2⟩⟩
    ·obtain⟨w',b1,b2,b3⟩:=ih.at' j v hj;exact⟨w',by rw[List.getElem?_set_ne (by omega)];exact b1,λh=>b2 (by omega),b3⟩
   ·obtain⟨e,g1,f,c⟩:=ih.ext;refine⟨e++[(vs[i].1,dJ (vs[i].1++pr (k+1)) vs[i].2)],by rw[g1,ku],?_,λp hp=>?_⟩
    ·rw[List.map_append,List.nodup_append];refine⟨f,by simp,λx z y r=>?_⟩;obtain⟨p,hp,rfl⟩:=List.mem_map.1 z;obtain⟨j,v,hj,A,B,_⟩:=c p hp;simp at r;subst r;intro C;have:=Dj d A a (by rw[←B];exact C);omega
    ·rcases eG.1 hp with hp | hp
     ·obtain⟨j,v,hj,h⟩:=c p hp;exact⟨j,v,by omega,h⟩
     ·rw[gF]at hp;subst hp;exact⟨i,_,by omega,a,rfl,k,_,rfl,f2⟩
  ·rw[Γ hm];refine⟨λj v hj=>?_,ih.len,?_⟩
   ·obtain⟨w',b1,b2,b3⟩:=ih.at' j v hj;exact⟨w',b1,λh=>b2 (by omega),b3⟩
   ·obtain⟨e,g1,f,c⟩:=ih.ext;exact⟨e,g1,f,λp hp=>by obtain⟨j,v,hj,h⟩:=c p hp;exact⟨j,v,by omega,h⟩⟩
def VL{s:S}(h:Nl s){k:Nat}(hl:(s++pr k).length<=200):iH (s++pr k)=true:=by
 have h1:0<s.length:=List.length_pos_iff.2 h.1;unfold iH;have a:decide ((s++pr k).length=0)=false:=by rw[gT,jz];omega
 have b:decide (200<(s++pr k).length)=false:=by rw[gT];omega
 have c:(s++pr k).all yg=true:=by rw[List.all_append,h.2.2];unfold pr;rw[kX.2 λx d=>by rw[List.eq_of_mem_replicate d];decide];rfl
 rw[a,b,c];rfl
def ank(b:BS l)(i:∀p∈l,p.1 ∉ vs.map Prod.fst)(n:∀k∈ks,hY 100 k)(hv:∀v∈vs,Nl v.1)(o:(vs.map Prod.fst).Nodup){F:Nat}(t:200<=F):
 BS (rn F l ks vs vs.length).2/\∀v∈(rn F l ks vs vs.length).1,iH v.1=true:=by
 have p:=VK b i n hv o t vs.length (ξ _);refine⟨?_,λv u=>?_⟩
 ·obtain⟨e,g1,z,a⟩:=p.ext;rw[g1];refine⟨?_,λq c=>?_⟩
  ·rw[List.map_append,List.nodup_append];refine⟨b.nd,z,λx A y B=>?_⟩;obtain⟨q,c,rfl⟩:=List.mem_map.1 A;obtain⟨r,C,rfl⟩:=List.mem_map.1 B;obtain⟨j,v,_,d,f,_⟩:=a r C;intro g;exact i q c (List.mem_map.2 ⟨v,List.mem_of_getElem? d,by rw[g,f]⟩)
  ·rcases eG.1 c with c | c
   ·exact b.en q c
   ·obtain⟨j,v,_,d,f,k,s,g,D⟩:=a q c;exact⟨by rw[f];exact hv v (List.mem_of_getElem? d),.inr ⟨k,s,by rw[f];exact g,by rw[f];exact D⟩⟩
 ·obtain⟨j,hj,e⟩:=fD u;have hl:=p.len;have d:vs[j]?=some (vs[j]'(by omega)):=aX (by omega);obtain⟨w,g1,_,a⟩:=p.at' j _ d;rw[aX hj,e]at g1;injection g1 with g1;have h:=hv _ (List.mem_of_getElem? d);rw[g1];rcases a with a | ⟨k,a,E⟩
  ·have h0:=VL h (k:=0) (by have:=h.2.1;simp[pr];omega);simp only[pr,List.replicate_zero,List.append_nil]at h0;show iH w=true;rw[a];exact h0
  ·show iH w=true;rw[a];exact VL h (by rw[←a];exact E)
end
end
section
structure Nk(x:Nd):Prop where
 op:uK x.op=false
 sh:nN x.op x.kids.length=true
 nm:mD x=0
 vr:lL x=0
 so:yh x=0
def kB(op:Int)(len:Nat):List Bool->Nat->Bool
 | [],_=>false
 | t::l,j=>(if op=17\/op=18 then t==decide ((j:Int)=len - 1) else t)||kB op len l (j+1)
def wF{ts:List Nd}{op:Int}{len:Nat}:∀{l:List Int} {j:Nat},lK ts op len l j=kB op len (l.map λk=>decide (dZ ts k.toNat=19)) j
 | [],j=>rfl
 | k::l,j=>by rw[lK,eY,kB,wF]
def Tg(ts:List Nd):Bool:=decide (dZ ts (ts.length - 1)=19)
structure Gd(ts:List Nd):Prop where
 fx:Fx ts
 nk:∀x∈ts,Nk x
 kb:∀(i:Nat) x,ts[i]?=some x->lK ts x.op x.kids.length x.kids 0=false
def GF:∀{l:List Int},fm l=0↔∀a∈l,a=0
 | []=>by simp[fm]
 | a::l=>by
  unfold fm;by_cases h:a=0
  ·rw[ab h,GF];simp[h]
  ·rw[Γ h];simp[h]
def GG{ts:List Nd}{i:Nat}{x:Nd}(j:ts[i]?=some x):ki ts i=0↔ord ts i=true/\Nk x/\lK ts x.op x.kids.length x.kids 0=false:=by
 have e:ki ts i=0↔nP ts x i=0/\yi ts x=0:=by
  unfold ki;rw[j];simp only;by_cases h:nP ts x i=0
  ·simp[h]
  ·simp[h]
 rw[e];unfold nP yi;rw[GF,GF];constructor
 ·rintro⟨h1,h2⟩;have c:=h1 _ List.mem_cons_self;have d:=h1 (if nN x.op x.kids.length then 0 else 2) (by simp)
  have f:=h1 (if ord ts i then 0 else 9) (by simp)
  have b1:=h2 _ List.mem_cons_self;refine⟨?_,⟨?_,?_,h2 _ (by simp),h2 _ (by simp),h2 _ (by simp)⟩,?_⟩
  ·cases h:ord ts i with
   | true=>rfl
   | false=>rw[h]at f;simp at f
  ·cases h:uK x.op with
   | false=>rfl
   | true=>rw[h]at c;simp at c
  ·cases h:nN x.op x.kids.length with
   | true=>rfl
   | false=>rw[h]at d;simp at d
  ·cases h:lK ts x.op x.kids.length x.kids 0 with
   | false=>rfl
   | true=>rw[h]at b1;simp at b1
 ·rintro⟨h1,⟨h2,k,l,m,n⟩,o⟩;refine⟨λa b=>?_,λa b=>?_⟩
  ·simp[h1,h2,k]at b;exact b
  ·simp[l,m,n,o]at b;exact b
def Mj{ts:List Nd}:∀{m i:Nat},mE ts m i=0↔∀j,i<=j->j<i+m->ki ts j=0
 | 0,i=>by simp[mE];intro j h1 h2;omega
 | m+1,i=>by
  unfold mE;by_cases h:ki ts i=0
  ·rw[Γ (by simp[h]),Mj];constructor
   ·intro g j h1 h2;by_cases e:j=i
    ·rw[e];exact h
    ·exact g j (by omega) (by omega)
   ·exact λg j h1 h2=>g j (by omega) (by omega)
  ·rw[ab h];exact⟨λe=>absurd e h,λg=>g i (ξ _) (by omega)⟩
def rX{ts:List Nd}:cX ts=0↔ts.length<=2000/\Gd ts/\Tg ts=false/\rN ts<=60:=by
 unfold cX;by_cases h0:ts.length=0
 ·rw[ab h0];exact⟨λe=>absurd e (by decide),λh=>by have:=h.2.1.fx.pos;omega⟩
 ·rw[Γ h0];by_cases h1:2000<ts.length
  ·rw[ab h1];exact⟨λe=>absurd e (by decide),λh=>by have:=h.1;omega⟩
  ·rw[Γ h1];by_cases h2:mE ts ts.length 0=0
   ·rw[Γ (by simp[h2])];have c:=Mj.1 h2;unfold Al;rw[GF];have b:∀i,i<ts.length->∃x,ts[i]?=some x:=λi hi=>⟨_,aX hi⟩;constructor
    ·intro h;have l:=h _ List.mem_cons_self;have m:=h (if dZ ts (ts.length - 1)=19 then 11 else 0) (by simp)
     have n:=h (if 60<rN ts then 24 else 0) (by simp)
     refine⟨by omega,⟨⟨by omega,λj hj=>?_,?_⟩,λx b=>?_,λi x b=>?_⟩,?_,?_⟩
     ·obtain⟨x,e⟩:=b j hj;exact((GG e).1 (c j (by omega) (by omega))).1
     ·by_cases e:fs ts (ts.length - 1)=0
      ·exact e
      ·rw[Γ e]at l;omega
     ·obtain⟨i,hi,rfl⟩:=fD b;exact((GG (aX hi)).1 (c i (by omega) (by omega))).2.1
     ·exact((GG b).1 (c i (by omega) (by have:=(cZ.1 b).1;omega))).2.2
     ·unfold Tg;by_cases e:dZ ts (ts.length - 1)=19
      ·rw[ab e]at m;omega
      ·simp[e]
     ·by_cases e:60<rN ts
      ·rw[ab e]at n;omega
      ·omega
    ·rintro⟨_,g,t,d⟩ a k;unfold Tg at t;have t':dZ ts (ts.length - 1)≠19:=by simpa using t
     have d':¬ 60<rN ts:=by omega
     simp[g.fx.z,t',d']at k;exact k
   ·rw[ab h2];refine⟨λe=>absurd e h2,λh=>absurd (Mj.2 λj _ hj=>?_) h2⟩;have f:j<ts.length:=by omega
    have e:ts[j]?=some ts[j]:=aX f;exact(GG e).2 ⟨h.2.1.fx.ord j f,h.2.1.nk _ (bL f),h.2.1.kb j _ e⟩
def Nk.wk{x:Nd}(h:Nk x){l:List Int}(e:l.length=x.kids.length):Nk (wk x l):=⟨h.op,by show nN x.op l.length=true;rw[e];exact h.sh,h.nm,h.vr,h.so⟩
section
variable {ts:List Nd}(g:Gd ts)
include g
def Gd.kids{k:List Nd}(f:k∈parts ts):Gd k:=by
 have hp:=g.fx.pos;have h1:=(g.fx.kids f).1;unfold parts at f;obtain⟨c,l,rfl⟩:=List.mem_map.1 f;have h0:=jL (g.fx.ord _ (show ts.length - 1<ts.length by omega)) c l;have b:c.toNat<ts.length:=by omega
 have o:=hJ b;have hle:=fw ts c.toNat;refine⟨h1,λy h=>?_,λj y h=>?_⟩
 ·obtain⟨z,m,rfl⟩:=List.mem_map.1 h;have:=g.nk z (zg (tN m));exact⟨this.op,by show nN z.op (z.kids.map _).length=true;rw[ji];exact this.sh,this.nm,this.vr,this.so⟩
 ·obtain⟨hj,e⟩:=cZ.1 h;rw[nT b hj]at e;have d:fs ts c.toNat+j<ts.length:=by omega
  have:=g.kb (fs ts c.toNat+j) _ (aX d);rw[←e,wF];rw[wF]at this;simp only[ma,ji,List.map_map];have hm:(ts[fs ts c.toNat+j].kids.map ((λk=>decide (dZ (part ts c.toNat) k.toNat=19)) ∘ λk=>k - (fs ts c.toNat:Int)))=ts[fs ts c.toNat+j].kids.map λk=>decide (dZ ts k.toNat=19):=by
   refine List.map_congr_left λq n=>?_;have i:q∈bO ts (fs ts c.toNat+j):=by rw[jW d];exact n
   have o1:=jL (g.fx.ord _ d) q i;obtain⟨a,rfl⟩:∃a:Nat,q=(a:Int):=⟨q.toNat,by omega⟩;have o2:=(yB g.fx.ord d i);have o3:=(CG b g.fx.ord j hj).2.2;have o4:=fw ts a;have hb:a - fs ts c.toNat<(part ts c.toNat).length:=by omega
   have:dZ (part ts c.toNat) (a - fs ts c.toNat)=dZ ts a:=by unfold dZ;rw[aX hb,aX (show a<ts.length by omega)];simp only;rw[nT b hb];simp only[ma,show fs ts c.toNat+(a - fs ts c.toNat)=a by omega]
   show decide (dZ (part ts c.toNat) (((a:Nat):Int) - (fs ts c.toNat:Int)).toNat=19)=decide (dZ ts ((a:Nat):Int).toNat=19);rw[show(((a:Nat):Int) - (fs ts c.toNat:Int)).toNat=a - fs ts c.toNat by omega,this];rfl
  rw[hm];exact this
def Gd.root{x:Nd}(b:ts[ts.length - 1]?=some x):kB x.op x.kids.length ((parts ts).map Tg) 0=false:=by
 have hp:=g.fx.pos;have:=g.kb _ x b;rw[wF]at this;have c:bO ts (ts.length - 1)=x.kids:=by unfold bO;rw[b]
 unfold parts;rw[c,List.map_map];have hm:x.kids.map (Tg ∘ λk=>part ts k.toNat)=x.kids.map λk=>decide (dZ ts k.toNat=19):=by
  refine List.map_congr_left λq d=>?_;have o1:=jL (g.fx.ord _ (show ts.length - 1<ts.length by omega)) q (by rw[c];exact d);have a:q.toNat<ts.length:=by omega
  have e:=hJ a;have hle:=fw ts q.toNat;show Tg (part ts q.toNat)=_;unfold Tg;have hb:(part ts q.toNat).length - 1<(part ts q.toNat).length:=by omega
  have:dZ (part ts q.toNat) ((part ts q.toNat).length - 1)=dZ ts q.toNat:=by unfold dZ;rw[aX hb,aX a];simp only;rw[nT a hb];simp only[ma,show fs ts q.toNat+((part ts q.toNat).length - 1)=q.toNat by omega]
  rw[this]
 rw[hm];exact this
end
def VM{n:Nd}{l:List (List Nd)}:Tg (cM n l)=decide (n.op=19):=by unfold Tg dZ;rw[oc,Nat.add_sub_cancel,Di];rfl
def Gd.cM{n:Nd}{l:List (List Nd)}(g:∀t∈l,Gd t)(o:Nk n)(c:n.kids.length=l.length)(hb:kB n.op n.kids.length (l.map Tg) 0=false):Gd (cM n l):=by
 have d:∀t∈l,Fx t:=λt ht=>(g t ht).fx;have hl:=oc n l;have f:∀m x,(X.cM n l)[m]?=some x->(m=lens l/\x=wk n (ix 0 l))\/∃(i:Nat) (hi:i<l.length) (j:Nat) (hj:j<l[i].length),m=lens (l.take i)+j/\x=lM (λk=>k+((lens (l.take i):Nat):Int)) l[i][j]:=by
  intro m x a;have hm:=(cZ.1 a).1;by_cases e:m=lens l
  ·subst e;rw[Di]at a;injection a with a;exact .inl ⟨rfl,a.symm⟩
  ·obtain⟨i,hi,j,hj,rfl⟩:=L5 l m (by omega);rw[Dh hi hj]at a;injection a with a;exact .inr ⟨i,hi,j,hj,rfl,a.symm⟩
 refine⟨L6 d,λx a=>?_,λm x a=>?_⟩
 ·obtain⟨m,hm,e⟩:=fD a;rcases f m x (by rw[aX hm,e]) with ⟨_,rfl⟩ | ⟨i,hi,j,hj,_,rfl⟩
  ·exact o.wk (by rw[Au];exact c.symm)
  ·have:=(g _ (bL hi)).nk _ (bL hj);exact⟨this.op,by show nN _ (List.map _ _).length=true;rw[ji];exact this.sh,this.nm,this.vr,this.so⟩
 ·rcases f m x a with ⟨_,rfl⟩ | ⟨i,hi,j,hj,_,rfl⟩
  ·rw[wF];simp only[wk,Au];have hm:(ix 0 l).map (λk=>decide (dZ (X.cM n l) k.toNat=19))=l.map Tg:=by
    apply qg (by simp[Au]);intro i h1 h2;have b:i<l.length:=by simpa using h2
    have p:=L7 l 0 i b;obtain⟨u,r⟩:=cZ.1 p;have hp:=(d l[i] (bL b)).pos;have hs:=Gt b;rw[List.getElem_map,List.getElem_map,r,eV];rw[show(((lens (l.take (i+1)):Nat):Int) - 1).toNat=lens (l.take i)+(l[i].length - 1) by omega];unfold Tg dZ;rw[Dh b (show l[i].length - 1<l[i].length by omega),aX (show l[i].length - 1<l[i].length by omega)];rfl
   rw[hm,←c];exact hb
  ·have h:=g _ (bL hi);have:=h.kb j _ (aX hj);rw[wF]at this ⊢;simp only[lM,wk,ji,List.map_map];have hm:l[i][j].kids.map ((λk=>decide (dZ (X.cM n l) k.toNat=19)) ∘ λk=>k+((lens (l.take i):Nat):Int))=l[i][j].kids.map λk=>decide (dZ l[i] k.toNat=19):=by
    refine List.map_congr_left λq s=>?_;have o1:=jL (h.fx.ord j hj) q (by rw[jW hj];exact s);show decide (dZ (X.cM n l) (q+((lens (l.take i):Nat):Int)).toNat=19)=_;rw[show(q+((lens (l.take i):Nat):Int)).toNat=lens (l.take i)+q.toNat by omega];unfold dZ;rw[Dh hi (show q.toNat<l[i].length by omega),aX (show q.toNat<l[i].length by omega)];rfl
   rw[hm];exact this
def VN{l:List (S×S)}:∀{m i:Nat},(∀v∈l,iH v.1=true)->(l.map Prod.fst).Nodup->qE l m i=0
 | 0,i,_,_=>rfl
 | m+1,i,h1,h2=>by
  unfold qE;cases h:l[i]? with
  | none=>rfl
  | some v=>
   simp only;rw[Γ (by rw[h1 v (List.mem_of_getElem? h)];simp),Γ,VN h1 h2];intro hm;obtain⟨u,a,e⟩:=List.mem_map.1 hm;obtain⟨j,hj,b⟩:=fD a;have d:j<i:=by simp at hj;omega
   have c:j<l.length:=by simp at hj;omega
   have:l[j]?=some u:=by rw[aX c,←b];simp
   have:=Dj h2 this h e;omega
def VO{l:List (S×S)}:∀{m i:Nat},qE l m i=0->∀(j:Nat) v,i<=j->j<i+m->l[j]?=some v->iH v.1=true
 | 0,i,_,j,v,h1,h2,_=>by omega
 | m+1,i,h,j,v,h1,h2,hv=>by
  unfold qE at h;by_cases e:j=i
  ·subst e;rw[hv]at h;simp only at h;split at h
   ·cases h
   ·rename_i hp;simpa using hp
  ·cases hi:l[i]? with
   | none=>
    have:=(cZ.1 hv).1;have:=List.getElem?_eq_none_iff.1 hi;omega
   | some u=>
    rw[hi]at h;simp only at h;split at h
    ·cases h
    ·split at h
     ·cases h
     ·exact VO h j v (by omega) (by omega) hv
def Nk.plain{x:Nd}(h:Nk x):∀v∈x.vars,iH v.1=true:=by
 intro v hv;have:=h.vr;unfold lL at this;have hl:0<x.vars.length:=List.length_pos_of_mem hv;split at this
 ·split at this
  ·cases this
  ·obtain⟨j,hj,e⟩:=fD hv;exact VO this j v (oy _) (by omega) (by rw[aX hj,e])
 ·simp[hl]at this
def VP{s:S}(h:iH s=true)(hl:s.length<=100):Nl s:=by unfold iH at h;rw[aD,aD]at h;refine⟨λe=>?_,hl,h.2.2⟩;subst e;simp at h
def anl{w z:S}(b:iH w=true)(c:z≠[]):Gd (dJ w z):=by
 refine⟨Mc,λy a=>?_,λi y a=>?_⟩
 ·simp only[dJ,gF]at a;subst a;refine⟨rfl,rfl,?_,rfl,?_⟩
  ·simp[mD,b]
  ·simp[yh,c]
 ·have:y∈dJ w z:=List.mem_of_getElem? a;simp only[dJ,gF]at this;subst this;rfl
def BS.rel{l:List Bi}(b:BS l)(ts:List Nd):BS (cK ts l):=⟨List.Nodup.sublist ((List.filter_sublist).map _) b.nd,λp hp=>b.en p (List.mem_filter.1 hp).1⟩
def VQ{l:List (List Nd)}{G:List Nd->List Nd}(h:∀k∈l,Tg (G k)=Tg k):(l.map G).map Tg=l.map Tg:=by rw[List.map_map];exact List.map_congr_left h
def GH{F:Nat}(o:2000000<=F){s:S->S}:∀(f:Nat) {N M:Nat} {ts:List Nd} {l:List Bi},PA F f N M s ts l->BS l->Gd ts->hY 100 ts->(∀x,fM x ts=true->∀b,eD x l=some b->Gd b/\Tg b=false)->Gd (put F f ts l)/\Tg (put F f ts l)=Tg ts
 | 0,N,M,ts,l,p,_,_,_,_=>by have:=p.pc.len;have:=p.wf.fx.pos;omega
 | f+1,N,M,ts,l,p,b,g,r,H=>by
  obtain⟨x,d,mx⟩:=p.wf.fx.root;have h0:=p.wf.fx.pos;have ex:ts[ts.length - 1]'(by omega)=x:=(cZ.1 d).2;have z:Tg ts=decide (x.op=19):=by unfold Tg;rw[Md d]
  have h:=g.nk x mx;have B:(parts ts).length=x.kids.length:=by rw[Am h0,ex]
  rw[put_eq h0 ex];by_cases m:x.op=3
  ·rw[ab m];cases hf:eD x.name l with
   | none=>exact⟨g,rfl⟩
   | some t=>
    have C:=((p.wf.nv x mx).1 m).1;have:=H x.name (by rw[p.wf.fx.one d C];exact(yD C).2 ⟨m,rfl⟩) t hf;refine⟨this.1,?_⟩;show Tg t=_;rw[this.2,z,m];rfl
  ·rw[Γ m];by_cases u:x.op=17\/x.op=18
   ·rw[ab u];have R:=p.rn o mx;have D:=p.sd x mx;have hv:∀v∈x.vars,Nl v.1:=λv hv=>VP (h.plain v hv) ((r x mx).2 v hv);obtain⟨B1,B2⟩:=ank (ks:=parts ts) (vs:=x.vars) (b.rel ts) (λq J hm=>by
     have h1:=(List.mem_filter.1 J).2;rw[Vc p.wf.fx (by rw[uW d];exact hm) (by rw[Md d];exact m)]at h1;cases h1) (λk a=>by obtain⟨c,_,rfl⟩:=List.mem_map.1 a;exact Gn r _) hv D.2.1 (F:=F) (by omega)
    have key:∀k∈parts ts,Gd (put F f k (rn F (cK ts l) (parts ts) x.vars x.vars.length).2)/\Tg (put F f k (rn F (cK ts l) (parts ts) x.vars x.vars.length).2)=Tg k:=by
     intro k a;refine GH o f (p.y8 mx a) B1 (g.kids a) (by obtain⟨c,_,rfl⟩:=List.mem_map.1 a;exact Gn r _) λc y t ht=>?_;by_cases hm:c∈x.vars.map Prod.fst
     ·obtain⟨v,E,rfl⟩:=List.mem_map.1 hm;obtain⟨j,hj,e⟩:=fD E;have K:x.vars[j]?=some v:=by rw[aX hj,e]
      obtain⟨w,g1,n⟩:=Me o p d mx m K;unfold sK at n;rw[ht]at n;have n:t=dJ w v.2:=n;rw[n];refine⟨anl (B2 _ (List.mem_of_getElem? g1)) ?_,rfl⟩;obtain⟨i,hi,G,L,_⟩:=As.1 y;have I:=bL hi;have s1:=((p.sd.kids p.wf.fx a) _ I).1 G;have A:=((g.kids a).nk _ I).so;intro O;have P:k[i].sort=[]:=by rw[s1,L,←D.2.2 v E,O]
      unfold yh at A;rw[G,P]at A;simp at A
     ·have h1:fM c ts=true:=yC p.wf.fx a y (by rw[uW d];exact hm);rw[R.fo c λj v _ hv e=>hm (List.mem_map.2 ⟨v,List.mem_of_getElem? hv,e⟩),Dn,ab h1]at ht;exact H c h1 t ht
    refine⟨Gd.cM (λt ht=>?_) ⟨h.op,h.sh,h.nm,?_,h.so⟩ (by simp[B]) ?_,by rw[VM,z]⟩
    ·obtain⟨k,a,rfl⟩:=List.mem_map.1 ht;exact(key k a).1
    ·have:=h.vr;unfold lL at this ⊢;simp only;rw[ab u]at this ⊢;rw[R.len];by_cases hl:x.vars.length<1\/12<x.vars.length
     ·rw[ab hl]at this;cases this
     ·rw[Γ hl];exact VN B2 R.L9
    ·have:=g.root d;rw[VQ λk a=>(key k a).2];exact this
   ·rw[Γ u];have Q:=(p.wf.nv x mx).2 u;have key:∀k∈parts ts,Gd (put F f k l)/\Tg (put F f k l)=Tg k:=λk a=>
     GH o f (p.jM a) b (g.kids a) (by obtain⟨c,_,rfl⟩:=List.mem_map.1 a;exact Gn r _) λc y t ht=>H c (yC p.wf.fx a y (by rw[uW d,Q];simp)) t ht
    refine⟨Gd.cM (λt ht=>?_) h (by simp[B]) ?_,by rw[VM,z]⟩
    ·obtain⟨k,a,rfl⟩:=List.mem_map.1 ht;exact(key k a).1
    ·have:=g.root d;rw[VQ λk a=>(key k a).2];exact this
end
section
abbrev cm:S:=[111,116,104,101,114]
def No(ts:List Nd):Prop:=∀x∈ts,(x.name.length<=100/\x.name≠cm)/\∀v∈x.vars,v.1.length<=100/\v.1≠cm
def No.nm{ts:List Nd}(h:No ts):hY 100 ts:=λx a=>⟨(h x a).1.1,λv hv=>((h x a).2 v hv).1⟩
def So(s:S->S)(ts:List Nd):Prop:=∀x∈ts,(x.op=3->x.sort=s x.name)/\∀v∈x.vars,v.2=s v.1
def VR{l:List (S×S)}:∀{m i:Nat},qE l m i=0->∀(j:Nat) v,i<=j->j<i+m->l[j]?=some v->v.1 ∉ (l.take j).map Prod.fst
 | 0,i,_,j,v,h1,h2,_=>by omega
 | m+1,i,h,j,v,h1,h2,hv=>by
  unfold qE at h;by_cases e:j=i
  ·subst e;rw[hv]at h;simp only at h;split at h
   ·cases h
   ·split at h
    ·cases h
    ·assumption
  ·cases hi:l[i]? with
   | none=>
    have:=(cZ.1 hv).1;have:=List.getElem?_eq_none_iff.1 hi;omega
   | some u=>
    rw[hi]at h;simp only at h;split at h
    ·cases h
    ·split at h
     ·cases h
     ·exact VR h j v (by omega) (by omega) hv
def VS{l:List S}(h:∀(j:Nat) v,l[j]?=some v->v ∉ l.take j):l.Nodup:=by
 unfold List.Nodup;rw[List.pairwise_iff_getElem];intro i j hi hj a e;refine h j _ (aX hj) ?_;rw[←e];have:(l.take j)[i]?=some l[i]:=by rw[List.getElem?_take];simp[a,hi]
 exact List.mem_of_getElem? this
def Nk.nodup{x:Nd}(h:Nk x):(x.vars.map Prod.fst).Nodup:=by
 have:=h.vr;unfold lL at this;split at this
 ·split at this
  ·cases this
  ·refine VS λj v hv=>?_;obtain⟨u,a,rfl⟩:=qH hv;have hj:=(cZ.1 a).1;rw[←List.map_take];exact VR this j u (oy _) (by omega) a
 ·have:x.vars.length=0:=by
   by_cases e:0<x.vars.length
   ·simp[e]at this
   ·omega
  rw[kW.1 this];simp
def Gd.wf{ts:List Nd}(g:Gd ts):Wf ts:=⟨g.fx,λx a=>by
 have k:=g.nk x a;have key:¬ (x.op=17\/x.op=18)->x.vars=[]:=λh=>by
  have:=k.vr;unfold lL at this;rw[Γ h]at this;by_cases e:0<x.vars.length
  ·simp[e]at this
  ·exact kW.1 (by omega)
 refine⟨λb=>⟨?_,key (by omega)⟩,key⟩;have:=k.sh;unfold nN at this;rw[b]at this;simp at this;exact this⟩
def Gd.sd{ts:List Nd}{s:S->S}(g:Gd ts)(h:So s ts):Sd s ts:=λx a=>⟨(h x a).1,(g.nk x a).nodup,(h x a).2⟩
structure Tw(ts us:List Nd)(l:List Bi):Prop where
 fe:cX us=0
 ae:AE ts us []
 sh:pL ts us
 so:∃sA sB,So sA ts/\So sB us/\∀x,fM x ts=true->fM x us=true->sA x=sB x
 nm:hY 100 us
 gr:Ef ts l=Ef us l
 bd:Bd us
section
variable {ts us:List Nd}{l:List Bi}
def Ml{l:List Bi}:∀{r:List Bi} {i:Nat},mT l r i=0->∀(j:Nat) b,r[j]?=some b->iH b.1=true/\eD b.1 (l.take (i+j))=none
 | [],_,_,j,b,hb=>by simp at hb
 | y::r,i,h,j,b,hb=>by
  rw[LU]at h;by_cases g:bE l y i=0
  ·rw[Γ (by simp[g])]at h;cases j with
   | zero=>
    simp at hb;subst hb;have g1:=yA g;have a:=yA g1.2;refine⟨?_,?_⟩
    ·cases e:iH y.1 with
     | true=>rfl
     | false=>rw[e]at g1;simp at g1
    ·cases e:eD y.1 (l.take i) with
     | none=>rfl
     | some t=>rw[e]at a;simp at a
   | succ j=>
    have:=Ml h j b (by simpa using hb);rw[show i+(j+1)=i+1+j by omega];exact this
  ·rw[ab g]at h;exact absurd h g
def VT{x:S}:∀{l:List Bi},eD x l=none↔x ∉ l.map Prod.fst
 | []=>by simp[eD]
 | p::l=>by
  unfold eD;by_cases h:p.1=x
  ·rw[ab h];simp[h]
  ·rw[Γ h,VT];simp[Ne.symm h]
def ann(hb:mT l l 0=0)(a:∀b∈l,b.1.length<=100/\No b.2):BS l:=by
 refine⟨VS λj v hv=>?_,λp hp=>?_⟩
 ·obtain⟨u,c,rfl⟩:=qH hv;have:=(Ml hb j u c).2;rw[eV]at this;rw[←List.map_take];exact VT.1 this
 ·obtain⟨j,hj,e⟩:=fD hp;have:=(Ml hb j p (by rw[aX hj,e])).1;exact⟨VP this (a p hp).1,.inl (a p hp).2.nm⟩
def ano{F:Nat}(i:2000000<=F)(T:Tw ts us l)(h:je ts=true)(f0:cX ts=0)(no:No ts)(hl:l.all sJ=true)(n:l.length<=4)(D:∀b∈l,b.1.length<=100/\No b.2):
 (mT l l 0=0->PC us.length 200 120 us l)/\sE F ts l=sE F us l/\(sE F ts l=0->cX (put F ts.length ts l)=0/\cX (put F us.length us l)=0/\AE (put F ts.length ts l) (put F us.length us l) []):=by
 have hlen:=(rV T.sh).1;have o:mT l l 0=0->PC us.length 200 120 us l:=λhb=>by have p:=Gp h hl n f0 hb;obtain⟨r,_⟩:=yw T.bd T.fe;exact⟨r,ξ _,T.nm.mono (by omega),p.LP,p.uV,p.bl,p.m1,by rw[←hlen];exact p.sz,by rw[←hlen];exact p.nb,by rw[←hlen];exact p.ll⟩
 have main:mT l l 0=0->AE (put F ts.length ts l) (put F us.length us l) []/\pL (put F ts.length ts l) (put F us.length us l)/\Gd (put F ts.length ts l)/\Tg (put F ts.length ts l)=false/\Gd (put F us.length us l)/\Tg (put F us.length us l)=false:=λhb=>by
  obtain⟨sA,sB,s1,E,G⟩:=T.so;obtain⟨_,j,I,_⟩:=rX.1 f0;obtain⟨_,k,J,_⟩:=rX.1 T.fe;have s:=LV hb;have bg:∀b∈l,Gd b.2/\Tg b.2=false:=λb a=>⟨(rX.1 (s b a)).2.1,(rX.1 (s b a)).2.2.1⟩;have t:PA F ts.length 200 120 sA ts l:=⟨Gp h hl n f0 hb,j.wf,j.sd s1,λb a=>(bg b a).1.wf⟩;have m:PA F us.length 200 120 sB us l:=⟨o hb,k.wf,k.sd E,λb a=>(bg b a).1.wf⟩;have B:=ann hb D;have H:∀x b,eD x l=some b->Gd b/\Tg b=false:=λx b e=>by obtain⟨q,d,rfl⟩:=uS e;exact bg q d
  obtain⟨u,v⟩:=GH i _ t B j no.nm λx _ b e=>H x b e;obtain⟨b1,b2⟩:=GH i _ m B k T.nm λx _ b e=>H x b e;rw[←hlen]at m;have:=Mf i ts.length t m T.ae (ρ':=[]) λx y K L hv=>by
   have e:x=y:=by unfold vm at hv;simpa[eC]using hv
   subst e;unfold sK;cases hf:eD x l with
   | some b=>exact⟨Mh (H x b hf).1.fx,rfl⟩
   | none=>rw[G x K L];exact⟨Mh Mc,rfl⟩
  rw[hlen]at this u v ⊢;exact⟨this.1,this.2,u,v.trans I,b1,b2.trans J⟩
 refine⟨o,?_,λh0=>?_⟩
 ·unfold sE;rw[f0,T.fe,T.gr];by_cases hb:mT l l 0=0
  ·obtain⟨_,c,_⟩:=main hb;have:pK (put F ts.length ts l)=pK (put F us.length us l):=by unfold pK;rw[(rV c).1,Mg c]
   rw[this]
  ·simp[hb]
 ·have d:mT l l 0=0/\pK (put F ts.length ts l)=0:=by
   obtain⟨e,he⟩:∃e,fm [cX ts,if decide ((100:Int)<(l.length:Nat))=true then 5 else 0]=e:=⟨_,rfl⟩
   unfold sE at h0;rw[he]at h0;by_cases g:e=0
   ·subst g;by_cases f:mT l l 0=0
    ·refine⟨f,?_⟩;by_cases w:2000<Ef ts l
     ·simp[f,w]at h0
     ·simpa[f,w]using h0
    ·simp[f]at h0
   ·simp[g]at h0
  obtain⟨m1,c,M,N,O,P⟩:=main d.1;have JI:=d.2;unfold pK at JI;have z:=yA JI;have Q:=(yA z.2).1;have A:(put F ts.length ts l).length<=2000:=by
   by_cases e:(2000:Int)<((put F ts.length ts l).length:Nat)
   ·have:=z.1;simp[e]at this
   ·omega
  have C:rN (put F ts.length ts l)<=60:=by
   by_cases e:60<rN (put F ts.length ts l)
   ·simp[e]at Q
   ·omega
  exact⟨rX.2 ⟨A,M,N,C⟩,rX.2 ⟨by rw[←(rV c).1];exact A,O,P,by rw[←Mg c];exact C⟩,m1⟩
def anq(h:je ts=true)(f0:cX ts=0)(no:No ts)(so:∃s,So s ts):Tw ts ts l:=by obtain⟨s,hs⟩:=so;exact⟨f0,Mh (rX.1 f0).2.1.fx,rfl,⟨s,s,hs,hs,λ_ _ _=>rfl⟩,no.nm,rfl,uR h⟩
def VU{a b:List Nd}(h:pL a b):p0 a=p0 b:=by
 obtain⟨h1,h2⟩:=rV h;have:∀m,oe a m=oe b m:=by
  intro m
  induction m with
  | zero=>simp[oe,h1]
  | succ m ih=>rw[oe,oe,ih,h2]
 unfold p0;rw[h1,this]
end
end
section
section
variable {ts:List Nd}{o:S}{x:Nd}{z:S}
def Mm(g:Fx ts)(b:ts[ts.length - 1]?=some x)(hv:x.vars=[(o,z)]){i:Nat}{y:Nd}(a:(fi o cm ts)[i]?=some y):
 (i+1<ts.length/\∃w,ts[i]?=some w/\y=eU o cm w)\/(i=ts.length - 1/\y={ x with vars:=[(cm,z)]}):=by
 have hp:=g.pos;have hi:=(cZ.1 a).1;rw[wE g]at hi;by_cases h1:i+1<ts.length
 ·left;rw[Dp g h1]at a;obtain⟨w,h2,c⟩:=Option.map_eq_some_iff.1 a;exact⟨h1,w,h2,c.symm⟩
 ·right;have:i=ts.length - 1:=by omega
  subst this;rw[Aw g b,hv]at a;injection a with a;exact⟨rfl,a.symm⟩
def VV(g:Fx ts)(a:ts[ts.length - 1]?=some x)(i:Nat):dZ (fi o cm ts) i=dZ ts i:=by
 have hp:=g.pos;unfold dZ;by_cases h1:i+1<ts.length
 ·rw[Dp g h1];cases ts[i]? with
  | none=>rfl
  | some w=>exact(rW o cm w).1
 ·by_cases h2:i=ts.length - 1
  ·subst h2;rw[Aw g a,a]
  ·rw[ml (by rw[wE g];omega),ml (by omega)]
def anr{a b:List Nd}(h:∀i,dZ a i=dZ b i){op:Int}{len:Nat}{l:List Int}{j:Nat}:lK a op len l j=lK b op len l j:=by rw[wF,wF];congr 1;exact List.map_congr_left λk _=>by rw[h]
def VW(g:Fx ts)(c:ts[ts.length - 1]?=some x)(hv:x.vars=[(o,z)]){s:S}(h1:s≠o)(h2:s≠cm):∀(f:Nat) (a:Int),sI (fi o cm ts) s f a=sI ts s f a
 | 0,a=>rfl
 | f+1,a=>by
  have e:s∈jX (fi o cm ts) a.toNat↔s∈jX ts a.toNat:=by
   unfold jX;by_cases c1:a.toNat+1<ts.length
   ·rw[Dp g c1];cases ts[a.toNat]? with
    | none=>rfl
    | some w=>simp only[ox,(rW o cm w).2.2.1]
   ·by_cases c2:a.toNat=ts.length - 1
    ·rw[c2,Aw g c,c];simp only[hv,eY,List.map_nil,gF];exact⟨λe=>absurd e h2,λe=>absurd e h1⟩
    ·have:=g.pos;rw[ml (by rw[wE g];omega),ml (by omega)]
  unfold sI;by_cases b:a<0
  ·rw[ab b,ab b]
  ·rw[Γ b,Γ b,←VU (GC g)];by_cases hm:s∈jX ts a.toNat
   ·rw[ab hm,ab (e.2 hm)]
   ·rw[Γ hm,Γ (λh=>hm (e.1 h))];exact VW g c hv h1 h2 f _
def ans{l:List Bi}(h:je ts=true)(f0:cX ts=0)(no:No ts)(so:∃s,So s ts)(m:ts[ts.length - 1]?=some x)(hv:x.vars=[(o,z)])
 (hb:∀i,i+1<ts.length->∀y,ts[i]?=some y->∀v∈y.vars,v.1≠o):Tw ts (fi o cm ts) l:=by
 obtain⟨len,n,K,L⟩:=rX.1 f0;obtain⟨s,hs⟩:=so;have g:=n.fx;have hp:=g.pos;have mx:x∈ts:=List.mem_of_getElem? m;have E:(o,z)∈x.vars:=by rw[hv];simp
 have q:x.op≠3:=λe=>by have:=((n.wf.nv x mx).1 e).2;rw[hv]at this;cases this
 have M:x.op=17\/x.op=18:=by
  by_cases e:x.op=17\/x.op=18
  ·exact e
  ·have:=(n.wf.nv x mx).2 e;rw[hv]at this;cases this
 have N:o≠cm:=((no x mx).2 _ E).2;have O:z=s o:=(hs x mx).2 _ E;have r:=GC (o:=o) (w:=cm) g;have hl:=wE (o:=o) (w:=cm) g;have F:∀y∈ts,y.op=3->y.name≠cm:=λy j _=>(no y j).1.2;have G:∀i,i+1<ts.length->∀y,ts[i]?=some y->∀v∈y.vars,v.1≠o/\v.1≠cm:=λi hi y j v f=>⟨hb i hi y j v f,((no y (List.mem_of_getElem? j)).2 v f).2⟩;have node:∀y∈fi o cm ts,(∃i w,i+1<ts.length/\ts[i]?=some w/\y=eU o cm w)\/y={ x with vars:=[(cm,z)]}:=λy j=>by
  obtain⟨i,hi,e⟩:=fD j;rcases Mm g m hv (show(fi o cm ts)[i]?=some y by rw[aX hi,e]) with ⟨a,w,b,c⟩ | ⟨_,c⟩
  ·exact .inl ⟨i,w,a,b,c⟩
  ·exact .inr c
 have H:Gd (fi o cm ts):=by
  refine⟨am7 r g,λy j=>?_,λi y j=>?_⟩
  ·rcases node y j with ⟨i,w,hi,d,rfl⟩ | rfl
   ·have k:=n.nk w (List.mem_of_getElem? d);unfold eU;split
    ·rename_i Q;have p:=Q.1;refine⟨k.op,k.sh,?_,k.vr,?_⟩
     ·have t:iH cm=true:=by decide
      unfold mD;simp[p,t]
     ·have:=k.so;unfold yh at this ⊢;simp only[p]at this ⊢;exact this
    ·exact k
   ·have k:=n.nk x mx;refine⟨k.op,k.sh,k.nm,?_,k.so⟩;unfold lL;simp only;rw[ab M];have t:iH cm=true:=by decide
    simp[qE,t]
  ·rw[anr (VV g m)];rcases Mm g m hv j with ⟨_,w,d,rfl⟩ | ⟨rfl,rfl⟩
   ·obtain⟨u,_,_,R⟩:=rW o cm w;rw[u,R];exact n.kb i w d
   ·exact n.kb _ x m
 have A:hY 100 (fi o cm ts):=λy j=>by
  rcases node y j with ⟨i,w,hi,d,rfl⟩ | rfl
  ·have k:=no w (List.mem_of_getElem? d);rw[(rW o cm w).2.2.1];refine⟨?_,λv f=>(k.2 v f).1⟩;unfold eU;split
   ·show cm.length<=100;decide
   ·exact k.1.1
  ·exact⟨(no x mx).1.1,λv f=>by simp at f;rw[f];show cm.length<=100;decide⟩
 refine⟨rX.2 ⟨by rw[hl];exact len,H,?_,by rw[←Mg r];exact L⟩,ane g N m q hv F G,r,⟨s,λc=>if c=cm then z else s c,hs,λy j=>?_,λc h1 _=>?_⟩,A,?_,?_⟩
 ·unfold Tg;rw[hl,VV g m];exact K
 ·rcases node y j with ⟨i,w,hi,d,rfl⟩ | rfl
  ·have B:=List.mem_of_getElem? d;obtain⟨u,T,U,_⟩:=rW o cm w;rw[u,T,U];refine⟨λp=>?_,λv f=>?_⟩
   ·rw[(hs w B).1 p];unfold eU;by_cases c:w.name=o
    ·rw[ab ⟨p,c⟩];simp only[if_true];rw[c];exact O.symm
    ·rw[Γ λe=>c e.2];show s w.name=if w.name=cm then z else s w.name
     rw[Γ (no w B).1.2]
   ·show v.2=if v.1=cm then z else s v.1
    rw[Γ (G i hi w d v f).2];exact(hs w B).2 v f
  ·refine⟨λe=>absurd e q,λv f=>?_⟩;simp at f;rw[f];simp
 ·
  obtain⟨i,hi,V,W,_⟩:=As.1 h1;have:=F _ (bL hi) V;rw[W]at this;simp only[Γ this]
 ·
  have X:=H.fx;have Y:o∈jX ts (ts.length - 1):=by rw[uW m,hv];simp
  have Z:(fi o cm ts)[(fi o cm ts).length - 1]?=some { x with vars:=x.vars.map λv=>(cm,v.2)}:=by rw[hl];exact Aw g m
  have yQ:cm∈jX (fi o cm ts) ((fi o cm ts).length - 1):=by rw[uW Z,hv];simp
  have key:∀i,i<=ts.length->og ts l i=og (fi o cm ts) l i:=by
   intro i
   induction i with
   | zero=>intro _;simp[og,hl]
   | succ i ih=>
    intro hi;have C:i<ts.length:=by omega
    have I:i<(fi o cm ts).length:=by omega
    rw[Ar C,Ar I,ih (by omega)];have J:ts[i]?=some ts[i]:=aX C;have eyB:(fi o cm ts)[i]?=some (fi o cm ts)[i]:=aX I;rcases Mm g m hv eyB with ⟨h1,w,d,e⟩ | ⟨h1,e⟩
    ·rw[J]at d;injection d with d;subst d;rw[e,(rW o cm _).1];by_cases D:ts[i].op=3
     ·by_cases c:ts[i].name=o
      ·have n1:¬ (binds ts i ts[i].name<0):=by
        have:=LX g Y (ts.length - 1 - i) i (by omega) (by omega);rw[c];omega
       have n2:(eU o cm ts[i]).name=cm:=by unfold eU;rw[ab ⟨D,c⟩]
       have n3:¬ (binds (fi o cm ts) i (eU o cm ts[i]).name<0):=by have:=LX X yQ (ts.length - 1 - i) i (by omega) (by omega);rw[n2];omega
       rw[Γ λe=>n1 e.2,Γ λe=>n3 e.2]
      ·have:eU o cm ts[i]=ts[i]:=by unfold eU;rw[Γ λe=>c e.2]
       rw[this];have hb:binds (fi o cm ts) i ts[i].name=binds ts i ts[i].name:=by unfold binds;rw[VW g m hv c (no _ (bL C)).1.2,←VU r,hl]
       rw[hb]
     ·rw[Γ λe=>D e.1,Γ λe=>D e.1]
    ·subst h1;have:ts[ts.length - 1]=x:=by rw[J]at m;injection m
     rw[e,this];rw[Γ λe=>q e.1,Γ λe=>q e.1]
  unfold Ef;rw[hl];exact key _ (ξ _)
 ·
  have b:=uR h;have mem:∀{P:Nd->Prop},(∀w∈ts,P (eU o cm w))->P { x with vars:=[(cm,z)]}->∀i (hi:i<(fi o cm ts).length),P (fi o cm ts)[i]:=λh1 h2 i hi=>by
   rcases node _ (bL hi) with ⟨_,w,_,d,e⟩ | e
   ·rw[e];exact h1 w (List.mem_of_getElem? d)
   ·rw[e];exact h2
  have bn:=b.bn;refine⟨by rw[hl];exact b.len,mem (P:=λy=>y.kids.length<1000000) (λw d=>by rw[(rW o cm w).2.2.2];exact(bn w d).1) (bn x mx).1,λi hi=>?_,mem (P:=λy=>y.vars.length<1000) (λw d=>by rw[(rW o cm w).2.2.1];exact(bn w d).2.2.1) (show(1:Nat)<1000 by omega),λi hi v f=>?_⟩
  ·have:=(A _ (bL hi)).1;omega
  ·have:=(A _ (bL hi)).2 v f;omega
end
end
end Go.Ev.X
