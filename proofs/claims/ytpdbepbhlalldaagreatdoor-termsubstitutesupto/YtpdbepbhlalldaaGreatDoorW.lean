/- A part of the proof. -/
import Derived.Test.YtpdbepbhlalldaaGreatDoorI
import Derived.Test.YtpdbepbhlalldaaGreatDoorD
set_option linter.all false
namespace Go.Ev.X
open Go Go.Ev
attribute [local irreducible] WC WO WD SO ν
section
variable {C:Nat->Option aI}{h:Hf}{n:K}{Q:V->Hf->K->Prop}
def ajH(d:Cd C){va vb:V}{l:List Int}(a:da h n .i64 va l)(hb:da h n .i64 vb l)(hl:l.length<1000000)(e:Q (.b true) h n):ν C (.f 137 [] []) [va,vb] h n Q:=by
 refine ν.go d.f137 U ?_;refine ε<|γ U<|δ ?_;refine θ<|ε<|γ U<|al U a<|γ U<|al U hb<|dR U U<|δ ?_;refine ae U (by simp)<|Ω ?_;refine θ<|ε<|γ U<|δ ?_;have loop:∀(r i:Nat),l.length - i=r->i<=l.length->WC C acG [(k0,va),(k1,vb),(k5,iN i)] h n (blk 0 (sq C acH (fq [.t k4] Q))):=by
  intro r
  induction r with
  | zero=>
   intro i g hi;refine ax ?_;refine θ<|ε<|γ U<|γ U<|al U a<|ay U U<|δ ?_;refine ae U (by simp<;>omega)<|aJ ?_;refine ε<|γ U<|δ (Γ ⟨_,rfl,e⟩)
  | succ r ih=>
   intro i g hi;have c:i<l.length:=by omega
   refine ax ?_;refine θ<|ε<|γ U<|γ U<|al U a<|ay U U<|δ ?_;refine ah U (by simp<;>omega)<|Ω ?_;refine θ<|aj<|cX<|ak U<|ak U<|cK U U a c<|aC U (a.get c _) U (by simp[cI,fS,cB,ic])<|ak U<|ak U<|cK U U hb c<|aC U (hb.get c _) U (by simp[cI,fS,cB,ic])<|A3 U U<|bU (by simp[AG,jD,mn,Nat.testBit]) ?_;refine ae U (by simp)<|Ω ?_;refine aA<|γ U<|aX U U ⟨by omega,by omega⟩<|γ U<|δ ?_;exact χ (ih (i+1) (by omega) (by omega)) (ρ.rf U)
 exact aj<|χ (loop _ 0 rfl (by omega)) (ρ.rf U)
def w11(d:Cd C){va vb:V}{l:List (S×S)}(a:du h n va l)(hb:du h n vb l)(hl:l.length<1000000)(e:Q (.b true) h n):ν C (.f 11 [] []) [va,vb] h n Q:=by
 refine ν.go d.f11 U ?_;refine ε<|γ U<|δ ?_;refine θ<|ε<|γ U<|al U a<|γ U<|al U hb<|dR U U<|δ ?_;refine ae U (by simp)<|Ω ?_;refine θ<|ε<|γ U<|δ ?_;have loop:∀(r i:Nat),l.length - i=r->i<=l.length->WC C acE [(k0,va),(k1,vb),(k5,iN i)] h n (blk 0 (sq C acF (fq [.t k4] Q))):=by
  intro r
  induction r with
  | zero=>
   intro i g hi;refine ax ?_;refine θ<|ε<|γ U<|γ U<|al U a<|ay U U<|δ ?_;refine ae U (by simp<;>omega)<|aJ ?_;refine ε<|γ U<|δ (Γ ⟨_,rfl,e⟩)
  | succ r ih=>
   intro i g hi;have c:i<l.length:=by omega
   refine ax ?_;refine θ<|ε<|γ U<|γ U<|al U a<|ay U U<|δ ?_;refine ah U (by simp<;>omega)<|Ω ?_;refine θ<|aj<|cX<|ak U<|ak U<|cK U U a c<|aC U (a.jP c) U (by simp[cI,jA,cB])<|ak U<|ak U<|cK U U hb c<|aC U (hb.jP c) U (by simp[cI,jA,cB])<|aaL U U (ahR _ _)<|bU (by simp[AG,jD,mn,Nat.testBit]) ?_;refine ae U (by simp)<|Ω ?_;refine aA<|γ U<|aX U U ⟨by omega,by omega⟩<|γ U<|δ ?_;exact χ (ih (i+1) (by omega) (by omega)) (ρ.rf U)
 exact aj<|χ (loop _ 0 rfl (by omega)) (ρ.rf U)
def w55(g:Cd C){j k:V}{ts:List Nd}(l:aZ h n j ts)(m:aZ h n k ts)(hb:Bd ts)(o:Q (.b true) h n):ν C (.f 55 [] []) [j,k] h n Q:=by
 refine ν.go g.f55 U ?_;obtain⟨cs,hs⟩:=l.sl;obtain⟨q,e⟩:=m.sl;have hlen:=hb.len;refine ε<|γ U<|δ ?_;refine θ<|ε<|γ U<|al U hs<|γ U<|al U e<|dR U U<|δ ?_;refine ae U (by simp)<|Ω ?_;refine θ<|ε<|γ U<|δ ?_;have loop:∀(r i:Nat),ts.length - i=r->i<=ts.length->WC C acC [(k0,j),(k1,k),(k5,iN i)] h n (blk 0 (sq C acD (fq [.t k4] Q))):=by
  intro r
  induction r with
  | zero=>
   intro i p hi;refine ax ?_;refine θ<|ε<|γ U<|γ U<|al U hs<|ay U U<|δ ?_;refine ae U (by simp<;>omega)<|aJ ?_;refine ε<|γ U<|δ (Γ ⟨_,rfl,o⟩)
  | succ r ih=>
   intro i p hi;have a:i<ts.length:=by omega
   obtain⟨s,u,c⟩:=l.node a;obtain⟨v,w,d⟩:=m.node a;have x:=hb.gw i a;have y:=hb.vl i a;refine ax ?_;refine θ<|ε<|γ U<|γ U<|al U hs<|ay U U<|δ ?_;refine ah U (by simp<;>omega)<|Ω ?_;refine θ<|aj<|cX<|ak U<|ak U<|cK U U hs a<|bG U<|aC U (c.op _) U (by simp[cI,fS,cB,ic])<|ak U<|ak U<|cK U U e a<|bG U<|aC U (d.op _) U (by simp[cI,fS,cB,ic])<|A3 U U<|ak U<|aR U (by simp)<|ak U<|aR U (by simp)<|ak U<|aR U (by simp)<|cK U U hs a<|aR U (by simp)<|bG U<|aR U (by simp)<|aC U (c.sort _) U (fg _ _)<|aR U (by simp)<|ak U<|aR U (by simp)<|ak U<|aR U (by simp)<|cK U U e a<|aR U (by simp)<|bG U<|aR U (by simp)<|aC U (d.sort _) U (fg _ _)<|aR U (by simp)<|Pc U U<|pz U (by simp) U<|ak U<|aR U (by simp)<|ak U<|aR U (by simp)<|ak U<|aR U (by simp)<|cK U U hs a<|aR U (by simp)<|bG U<|aR U (by simp)<|aC U (c.name _) U (fg _ _)<|aR U (by simp)<|ak U<|aR U (by simp)<|ak U<|aR U (by simp)<|cK U U e a<|aR U (by simp)<|bG U<|aR U (by simp)<|aC U (d.name _) U (fg _ _)<|aR U (by simp)<|Pc U U<|pz U (by simp) U<|ak U<|aR U (by simp)<|ak U<|aR U (by simp)<|ak U<|aR U (by simp)<|cK U U hs a<|aR U (by simp)<|bG U<|aR U (by simp)<|aC U (c.vs _) (κ.below c.vars (φ _)) (κ.cH c.vars)<|aR U (by simp)<|ak U<|aR U (by simp)<|ak U<|aR U (by simp)<|cK U U e a<|aR U (by simp)<|bG U<|aR U (by simp)<|aC U (d.vs _) (κ.below d.vars (φ _)) (κ.cH d.vars)<|aR U (by simp)<|aY U U<|w11 g c.vars d.vars (by omega)<|aR U (by simp)<|nQ U<|pz U (by simp) U<|ak U<|aR U (rfl)<|ak U<|aR U (rfl)<|ak U<|aR U (rfl)<|cK U U hs a<|aR U (rfl)<|bG U<|aR U (rfl)<|aC U (c.ks _) (κ.below c.kids (φ _)) (κ.cH c.kids)<|aR U (rfl)<|ak U<|aR U (rfl)<|ak U<|aR U (rfl)<|cK U U e a<|aR U (rfl)<|bG U<|aR U (rfl)<|aC U (d.ks _) (κ.below d.kids (φ _)) (κ.cH d.kids)<|aR U (rfl)<|aY U U<|ajH g c.kids d.kids (by omega)<|aR U (rfl)<|nQ U<|pz U (rfl) U<|bU (⟨⟨ω (by simp[Nat.testBit]),ω (by simp[Nat.testBit]),trivial⟩,⟨ω (by simp[Nat.testBit]),ω (by simp[Nat.testBit]),trivial⟩,⟨ω (by simp[Nat.testBit]),ω (by simp[Nat.testBit]),trivial⟩,⟨ω (by simp[Nat.testBit]),ω (by simp[Nat.testBit]),trivial⟩,⟨ω (by simp[Nat.testBit]),ω (by simp[Nat.testBit]),trivial⟩,⟨ω (by simp[Nat.testBit]),ω (by simp[Nat.testBit]),trivial⟩,⟨ω (by simp[Nat.testBit]),ω (by simp[Nat.testBit]),trivial⟩,⟨ω (by simp[Nat.testBit]),ω (by simp[Nat.testBit]),trivial⟩,⟨ω (by simp[Nat.testBit]),ω (by simp[Nat.testBit]),trivial⟩,⟨ω (by simp[Nat.testBit]),ω (by simp[Nat.testBit]),trivial⟩,trivial⟩) ?_;refine ae U U<|Ω ?_;refine aA<|γ U<|aX U U ⟨by omega,by omega⟩<|γ U<|δ ?_;exact χ (ih (i+1) (by omega) (by omega)) (ρ.rf U)
 exact aj<|χ (loop _ 0 rfl (by omega)) (ρ.rf U)
def w15(a:Cd C){c d:V}{ts:List Nd}{e:Int}(g:aZ h n c ts)(j:aZ h n d ts)(hb:Bd ts)(k:Q (.b true) h n):ν C (.f 15 [] []) [c,.i .i64 e,d,.i .i64 e] h n Q:=by refine ν.go a.f15 U ?_;refine ε<|γ U<|δ ?_;refine ε<|γ U<|γ U<|ψ U U<|w55 a g j hb<|γ U<|ζ U (rfl)<|γ U<|ζ U (rfl)<|γ U<|ζ U (rfl)<|aS U U<|aU U (rfl) U<|γ U<|δ (Γ ⟨_,rfl,?_⟩);rw[nE rfl];exact k
end
section
variable {C:Nat->Option aI}{h:Hf}{n:K}{Q:V->Hf->K->Prop}
def ajJ(e:Cd C){t:V}{l:List Int}(ht:da h n .i64 t l)(hlen:l.length<20000000)
 (a:∀v' h' n',Ext h n h' n'->Ow h' n' 3 1 v' l.length (cO .i64 l)->(v'=.ns\/n.num<=v'.blk.num)->Q v' h' n'):ν C (.f 196 [] []) [t] h n Q:=by
 refine ν.go e.f196 U ?_;refine ε<|γ U<|δ ?_;have go:j5 .eql (.one .slice) t .ns=some (.b false)->WC C acz [(k0,t)] h n (fq [.t k2] Q):=by intro hv;refine θ<|ε<|γ U<|nP U U hv<|δ ?_;refine ae U U<|Ω ?_;refine ε<|eg U <| λh1 n1 s i d=>γ U<|BM U (κ.whole (len:=0) (by omega) i rfl) U (ht.ext d) (by omega) (by omega) (by omega) <| λj k m o3 p q=>γ U<|δ ?_;exact Γ ⟨_,rfl,a j k m (d.trans p) o3 (q.imp id λh=>by rcases h with h | h<;>rw[h]<;>omega)⟩
 obtain⟨g1,r⟩:=id ht;rcases r with g | ⟨⟨b,o,c,g,_⟩,_⟩
 ·have hl:l=[]:=nD.1 g.2;rw[g.1];refine θ<|ε<|γ U<|nP U U U<|δ ?_;refine ah U U ?_;refine ε<|γ U<|δ ?_;refine Γ ⟨_,rfl,a .ns h n (Ext.refl h n) (Or.inl ⟨?_,Or.inl U⟩) (Or.inl U)⟩;rw[hl];exact ea.ns h 3 1
 ·refine χ (go ?_) (ρ.rf U);rcases g with g | g
  ·rw[g.1];rfl
  ·rw[g];rfl
def KC(e:Cd C){t:V}{l:List (S×S)}(ht:du h n t l)(hlen:l.length<20000000)
 (a:∀v' h' n',Ext h n h' n'->Ow h' n' 64 2 v' l.length (fW l)->(v'=.ns\/n.num<=v'.blk.num)->Q v' h' n'):ν C (.f 124 [] []) [t] h n Q:=by
 refine ν.go e.f124 U ?_;refine ε<|γ U<|δ ?_;have go:j5 .eql (.one .slice) t .ns=some (.b false)->WC C acA [(k0,t)] h n (fq [.t k2] Q):=by intro hv;refine θ<|ε<|γ U<|nP U U hv<|δ ?_;refine ae U U<|Ω ?_;refine ε<|eg U <| λh1 n1 s i d=>γ U<|BM U (κ.whole (len:=0) (by omega) i rfl) U (ht.ext d) (by omega) (by omega) (by omega) <| λj k m o3 p q=>γ U<|δ ?_;exact Γ ⟨_,rfl,a j k m (d.trans p) o3 (q.imp id λh=>by rcases h with h | h<;>rw[h]<;>omega)⟩
 obtain⟨g1,r⟩:=id ht;rcases r with g | ⟨⟨b,o,c,g,_⟩,_⟩
 ·have hl:l=[]:=nD.1 g.2;rw[g.1];refine θ<|ε<|γ U<|nP U U U<|δ ?_;refine ah U U ?_;refine ε<|γ U<|δ ?_;refine Γ ⟨_,rfl,a .ns h n (Ext.refl h n) (Or.inl ⟨?_,Or.inl U⟩) (Or.inl U)⟩;rw[hl];exact ea.ns h 64 2
 ·refine χ (go ?_) (ρ.rf U);rcases g with g | g
  ·rw[g.1];rfl
  ·rw[g];rfl
def ajK{v:V}:∀(l:List Nd) (m:List (V×V)) (i:Nat) (hm:m.length=l.length) (hi:i<m.length),(ca l m).set (i*5+4) v=ca l (m.set i (m[i].1,v)):=by
 intro l
 induction l with
 | nil=>intro m i hm hi;rw[hm]at hi;simp at hi
 | cons x l ih=>
  intro m i hm hi;cases m with
  | nil=>simp at hi
  | cons p m=>
   cases i with
   | zero=>rfl
   | succ i=>
    have:=ih m i (by simpa using hm) (by simpa using hi);rw[show(i+1)*5+4=(i*5+4)+5 by omega];simp only[ra,pb];show(bW x p.1 p.2++ca l m).set _ _=bW x p.1 p.2++ca l (m.set i ((m[i]'(by simpa using hi)).1,v));rw[←this];rfl
def ajL{v:V}:∀(l:List Nd) (m:List (V×V)) (i:Nat) (hm:m.length=l.length) (hi:i<m.length),(ca l m).set (i*5+3) v=ca l (m.set i (v,m[i].2)):=by
 intro l
 induction l with
 | nil=>intro m i hm hi;rw[hm]at hi;simp at hi
 | cons x l ih=>
  intro m i hm hi;cases m with
  | nil=>simp at hi
  | cons p m=>
   cases i with
   | zero=>rfl
   | succ i=>
    have:=ih m i (by simpa using hm) (by simpa using hi);rw[show(i+1)*5+3=(i*5+3)+5 by omega];simp only[ra,pb];show(bW x p.1 p.2++ca l m).set _ _=bW x p.1 p.2++ca l (m.set i (v,(m[i]'(by simpa using hi)).2));rw[←this];rfl
def ajM{v:V}{l:List Nd}{m:List (V×V)}{i:Nat}(h1:v.cells=[v])(h2:v.one=true)(hm:m.length=l.length)(hi:i<m.length):ju (ca l m) 0 (0+i*5+4) 1 v=some (ca l (m.set i (m[i].1,v))):=by refine mR h1 h2 ?_;rw[Ea v (by rw[sD hm];omega),show 0+i*5+4=i*5+4 by omega,ajK l m i hm hi]
def ajN{v:V}{l:List Nd}{m:List (V×V)}{i:Nat}(h1:v.cells=[v])(h2:v.one=true)(hm:m.length=l.length)(hi:i<m.length):ju (ca l m) 0 (0+i*5+3) 1 v=some (ca l (m.set i (v,m[i].2))):=by refine mR h1 h2 ?_;rw[Ea v (by rw[sD hm];omega),show 0+i*5+3=i*5+3 by omega,ajL l m i hm hi]
def ajO:∀{l:List Nd} {m:List (V×V)},(∀p∈m,p.1.one=true/\p.2.one=true)->aD (ca l m)=true:=by
 intro l
 induction l with
 | nil=>intro m _;cases m<;>rfl
 | cons x l ih=>
  intro m hm;cases m with
  | nil=>rfl
  | cons p m=>
   have h1:=hm p (by simp);have h2:=ih (m:=m) λq a=>hm q (by simp[a]);show aD (bW x p.1 p.2++ca l m)=true;simp only[bW,pc,List.nil_append,aD,h1.1,h1.2,h2];rfl
def sj(z:List V):∀m:Nat,(dL z m).length=m*z.length:=by
 intro m
 induction m with
 | zero=>simp[dL]
 | succ m ih=>simp[dL,ih,rX,nF]
def RO.bO{h h':Hf}{lo n n':K}{v:V}{x:Nd}{p:V×V}(a:RO h lo n v x p)(hv:v≠.ns)(hs:∀b:K,b.num<n.num->b.num≠v.blk.num->h' b=h b)(c:n.num<=n'.num):RO h' lo n' v x p:=by
 have e:∀{w:V},(w=.ns\/w.blk.num<n.num)->cC w v->w=.ns\/h' w.blk=h w.blk:=by
  intro w h1 h2;rcases h1 with l | l
  ·exact Or.inl l
  ·rcases h2 with g | g | g
   ·exact Or.inl g
   ·exact absurd g hv
   ·exact Or.inr (hs _ l g)
 have f:=e (κ.cP a.b) a.vt;have d:=e (κ.cP a.k) a.kt;refine⟨κ.eD a.b f c,κ.eD a.k d c,?_,a.kr,a.vr,a.vk,a.vt,a.kt⟩;rcases a.ko with g | g
 ·exact Or.inl g
 ·rcases d with e | e
  ·have:=g.1;rw[e]at this;cases this
  ·exact Or.inr ⟨g.1,by rw[e];exact g.2⟩
end
section
variable {C:Nat->Option aI}{h:Hf}{n:K}{Q:V->Hf->K->Prop}
def Ow.ko{v:V}{l:List Int}(a:Ow h n 3 1 v l.length (cO .i64 l)):l=[]\/(v=.su v.blk 0 l.length 1/\h v.blk=some (.c (cO .i64 l) 3 0)):=by
 rcases a with ⟨a,_⟩ | ⟨b,_,h2,_⟩
 ·rcases a.su with g | g
  ·exact Or.inl (nD.1 (a.nil g))
  ·exact Or.inr g
 ·exact Or.inl (nD.1 h2)
def set_drop{α:Type}(m m0:List α)(hi:m.length<m0.length)(a b:α):((m++m0.drop m.length).set m.length a).set m.length b=m++[b]++m0.drop (m.length+1):=by rw[List.set_set,List.set_append_right _ _ (φ _),lL,eo hi,List.set_cons_zero,pO];rfl
section
variable {h0:Hf}{n0 b:K}{t:V}{ts:List Nd}{m0:List (V×V)}
def ajP(W:Cd C)(wm:jV h0 n0 t ts m0)(hb:Bd ts)(J:n0.num<=b.num){Q1:Ex->Env->Hf->K->Prop}
 (hQ:∀m h n E',Ext h0 n0 h n->TO h n0 n (.sl b 0 ts.length ts.length) ts m->ρ [(k3,.sl b 0 ts.length ts.length)] E'->Q1 .normal E' h n):
 ∀(r i:Nat) (m:List (V×V)) (h:Hf) (n:K),ts.length - i=r->i<=ts.length->m.length=i->b.num<n.num->Ext h0 n0 h n->h b=some (.c (ca ts (m++m0.drop i)) 87 0)->cz (RO h n0 n (.sl b 0 ts.length ts.length)) (ts.take i) m->(m.Pairwise λp q=>cC p.2 q.2/\cC p.1 q.2/\cC p.2 q.1)->WC C acy [(k3,.sl b 0 ts.length ts.length),(rS,iN ts.length),(uY,iN i)] h n (blk 0 Q1):=by
 have hlen:=hb.len;obtain⟨Ay,ie,hrw⟩:=wm;intro r
 induction r with
 | zero=>
  intro i m h n E hi hm w y A z L;have:i=ts.length:=by omega
  subst this;rw[eN]at z;have hd:m++m0.drop ts.length=m:=by rw[oo (by omega),List.append_nil]
  rw[hd]at A;refine ax ?_;refine ε<|ay U U<|δ ?_;exact θ<|ae U (by simp)<|aJ (hQ m h n _ y ⟨κ.whole w A (sD hm),z,L,Or.inr J⟩ (ρ.rf U))
 | succ r ih=>
  intro i m h n E hi hm w y A z L;have u:i<ts.length:=by omega
  have bP:=hb.gw i u;have mP:=hb.vl i u;have G8:i<m0.length:=by omega
  obtain⟨CJ,gj⟩:=hrw i u;have M:=κ.ext CJ y;have N:=κ.ext gj y;have O:(m++m0.drop i).length=ts.length:=by simp;omega
  have hMi:(m++m0.drop i)[i]'(by omega)=m0[i]:=by rw[List.getElem_append_right (by omega)];simp[hm]
  have sl:κ h n 5 (.sl b 0 ts.length ts.length) ts.length (ca ts (m++m0.drop i)):=κ.whole w A (sD O);have X:∀{h' n'},Ext h n h' n'->bj h' true 5 (.p b (0+i*5))=some (.a (bW ts[i] m0[i].1 m0[i].2)):=by intro h' n' e;have:=(sl.ext e).jP (i:=i*5) (sz:=5) (by omega) (by omega);rw[sF O u,hMi]at this;exact this
  have ldk:bj h false 1 (.p b (0+i*5+4))=some m0[i].2:=ka (X (Ext.refl _ _)) U;have P:∀{h' n'},Ext h n h' n'->bj h' false 1 (.p b (0+i*5+3))=some m0[i].1:=λe=>ka (X e) U;refine ax ?_;refine ε<|ay U U<|δ ?_;refine θ<|ah U (by simp<;>omega)<|Ω ?_;refine θ<|aj<|ε<|γ U<|γ U<|δ ?_;refine nO<|ak U<|ak U<|ak U<|ak U<|ak U<|ak U<|cK U U sl u<|bG U<|aC U ldk (κ.below N (φ _)) (κ.cH N)<|aY U U<|ajJ W N (by omega) <| λs F R d o5 B=>ak U<|ak U<|cK U U sl u<|bG U<|aC U (P d) (κ.below M d.1) (κ.cH M)<|aY U U<|KC W (κ.ext M d) (by omega) <| λo G D x3 o3 S=>cK U U sl u<|bG U<|eT U U ((x3.2 b (by have:=d.1;omega)).trans ((d.2 b w).trans A)) (ajM o5.sl.cells o5.sl.one O (by omega)) <| λY a6 b6=>cK U U sl u<|bG U<|eT U U a6 (ajN o3.sl.cells o3.sl.one (by simp;omega) (by simp;omega)) <| λv a7 b7=>bU (⟨⟨ω (by simp[Nat.testBit]),ω (by simp[Nat.testBit]),ω (by simp[Nat.testBit]),bH (P (Ext.refl _ _)) (P d),trivial⟩,⟨ω (by simp[Nat.testBit]),ω (by simp[Nat.testBit]),ω (by simp[Nat.testBit]),ω (by simp[Nat.testBit]),trivial⟩,trivial⟩) ?_;have d:Ext h n F R:=d;have x3:Ext F R G D:=x3;have H:bm b G Y:=b6;have I:bm b Y v:=b7;have o5:Ow F R 3 1 s ts[i].kids.length (cO .i64 ts[i].kids):=o5;have o3:Ow G D 64 2 o ts[i].vars.length (fW ts[i].vars):=o3;have CP:v b=some (.c (ca ts (((m++m0.drop i).set i (((m++m0.drop i)[i]'(by omega)).1,s)).set i (o,(((m++m0.drop i).set i (((m++m0.drop i)[i]'(by omega)).1,s))[i]'(by simp;omega)).2))) 87 0):=a7;have oi:=d.1;have gJ:=x3.1;have qo:=y.1;have bO:∀k:K,k.num<n.num->k.num≠b.num->v k=h k:=λk h1 h2=>by rw[I k h2,H k h2,x3.2 k (by omega),d.2 k h1]
  have l5:=κ.cP o5.sl;have l3:=κ.cP o3.sl;have Z:s=.ns\/v s.blk=F s.blk:=by
   rcases l5 with l | l
   ·exact Or.inl l
   ·rcases B with p | p
    ·exact Or.inl p
    ·exact Or.inr (by rw[I _ (by omega),H _ (by omega),x3.2 _ l])
  have f3:o=.ns\/v o.blk=G o.blk:=by
   rcases S with p | p
   ·exact Or.inl p
   ·exact Or.inr (by rw[I _ (by omega),H _ (by omega)])
  have xe:Ext h0 n0 v D:=(((y.trans d).trans x3).ab H J).ab I J;have JW:s=.ns\/n0.num<=s.blk.num:=B.imp id λh=>by omega
  have T:o=.ns\/n.num<=o.blk.num:=S.imp id λh=>by omega
  have JX:o=.ns\/n0.num<=o.blk.num:=T.imp id λh=>by omega
  have ro:RO v n0 D (.sl b 0 ts.length ts.length) ts[i] (o,s):=by
   refine⟨κ.eD o3.sl f3 (φ _),κ.eD o5.sl Z gJ,?_,JW,JX,?_,?_,?_⟩
   ·rcases o5.ko with g | g
    ·exact Or.inl g
    ·rcases Z with f | f
     ·have:=g.1;rw[f]at this;cases this
     ·exact Or.inr ⟨g.1,by rw[f];exact g.2⟩
   ·exact(cC.of l5 (S.imp id λh=>by omega)).symm
   ·exact(cC.of (a:=.sl b 0 ts.length ts.length) (n:=n) (Or.inr w) T).symm
   ·exact(cC.of (a:=.sl b 0 ts.length ts.length) (n:=n) (Or.inr w) B).symm
  have CX:ts.take (i+1)=ts.take i++[ts[i]]:=fL u;refine aA<|aX U U ⟨by omega,by omega⟩<|γ U<|δ ?_;refine χ (ih (i+1) (m++[(o,s)]) v D (by omega) (by omega) (by simp[hm]) (by omega) xe ?_ ?_ ?_) (ρ.rf U)
  ·rw[CP];subst hm;rw[set_drop m m0 G8];simp only[vM]
  ·rw[CX];exact cz.app (cz.mono (λx p a=>a.bO (by intro h;cases h) bO (by omega)) z) ⟨ro,trivial⟩
  ·rw[List.pairwise_append];refine⟨L,List.pairwise_singleton _ _,?_⟩;intro p hp q hq;rw[iZ]at hq;subst hq;obtain⟨j,hj,rfl⟩:=iX hp;have E:=z.get j (by rw[←z.len];exact hj) hj;have b1:=κ.cP E.b;have b2:=κ.cP E.k;exact⟨cC.of b2 B,cC.of b1 B,cC.of b2 T⟩
end
def Ff(c:Cd C){t:V}{ts:List Nd}(ht:aZ h n t ts)(hb:Bd ts)(e:∀vo m h' n',Ext h n h' n'->TO h' n n' vo ts m->Q vo h' n'):ν C (.f 119 [] []) [t] h n Q:=by refine ν.go c.f119 U ?_;obtain⟨m0,tm⟩:=ht;have hs:=tm.2.1;have hlen:=hb.len;refine ε<|γ U<|δ ?_;refine ε<|γ U<|al U hs<|pA U U (by omega) (by omega) <| λh1 n1 u g a=>γ U<|δ ?_;have v:jV h1 n1 t ts m0:=⟨tm.1,hs.ext a,λi hi=>⟨(tm.2.2 i hi).1.ext a,(tm.2.2 i hi).2.ext a⟩⟩;refine ε<|γ U<|γ U<|Po U g (sj _ _) U (hs.ext a) (ajO (λp hp=>by obtain⟨j,hj,rfl⟩:=iX hp;exact⟨(tm.2.2 j (by rw[←tm.1];exact hj)).1.one,(tm.2.2 j (by rw[←tm.1];exact hj)).2.one⟩)) <| λh2 d b2=>δ ?_;have k:bm n h1 h2:=b2;refine θ<|ε<|γ U<|al U (κ.whole (n:=n1) (by omega) d (sD tm.1))<|γ U<|δ ?_;refine aj<|χ (ajP (b:=n) c tm hb (φ _) ?_ _ 0 [] h2 n1 rfl (by omega) U (by omega) (a.ab k (φ _)) (by simpa using d) trivial List.Pairwise.nil) (ρ.rf U);intro m l o E3 q r s;refine bS s ?_;refine ε<|γ U<|γ U<|δ (Γ ⟨_,rfl,e _ m l o q r⟩)
end
section
variable {C:Nat->Option aI}{h:Hf}{n:K}{Q:V->Hf->K->Prop}
section
variable {h0:Hf}{lo n0:K}{f:Nat}{t0:List Nd}{v:V}{m:List (V×V)}
def ajQ(hlen:t0.length<100000)(hf:f<100000)(A:∀i (hi:i<t0.length),t0[i].kids.length<1000000)(B:∀i (hi:i<t0.length),∀k∈t0[i].kids,0<=k/\k<1000000){i:Nat}(hi:i<t0.length)(W:n0.num<=lo.num){Q1:Ex->Env->Hf->K->Prop}
 {L:Nat}(D:∀us h E',Ext h0 n0 h n->TO h lo n v us m->lH (λx=>x - (f:Int)) t0 us (i+1) 0->ρ [(k5,iN f),(k6,v),(A1,iN L),(FW,iN i)] E'->Q1 .normal E' h n):
 ∀(r k:Nat) (us:List Nd) (h:Hf),t0[i].kids.length - k=r->k<=t0[i].kids.length->Ext h0 n0 h n->TO h lo n v us m->lH (λx=>x - (f:Int)) t0 us i k->WC C acI [(k5,iN f),(k6,v),(A1,iN L),(FW,iN i),(k7,iN i),(k28,.i .i64 (t0[i].kids.length:Nat)),(k29,iN k)] h n (blk 2 Q1):=by
 intro r
 induction r with
 | zero=>
  intro k us h E F he j l;have G:k=t0[i].kids.length:=by omega
  subst G;have d:i<us.length:=by rw[l.len];exact hi
  obtain⟨cs,hs⟩:=(show aZ h n v us from⟨m,j.tm⟩).sl;obtain⟨vv,kv,H⟩:=(show aZ h n v us from⟨m,j.tm⟩).node d;have hl:us[i].kids.length=t0[i].kids.length:=by rw[l.at_ d hi];exact wV _ _ _
  have X:=H.kids;refine ax ?_;refine ε<|ay U U<|δ ?_;exact θ<|ae U (by simp)<|aJ (D us h _ he j (lH.next (by rw[df hi];exact l)) (ρ.rf U))
 | succ r ih=>
  intro k us h E F he j l;have t:k<t0[i].kids.length:=by omega
  have d:i<us.length:=by rw[l.len];exact hi
  have u:i<m.length:=by rw[j.rows.len];exact d
  obtain⟨cs,hs⟩:=(show aZ h n v us from⟨m,j.tm⟩).sl;have q:=j.rows.get i d u;have I:=j.sl;have hl:us[i].kids.length=t0[i].kids.length:=by rw[l.at_ d hi];exact wV _ _ _
  have s:k<us[i].kids.length:=by omega
  have J:bj h true 5 (.p v.blk (v.off+i*5))=some (.a (bW us[i] m[i].1 m[i].2)):=by have:=I.jP (i:=i*5) (sz:=5) (by omega) (by omega);rw[sF j.rows.len d]at this;exact this
  have M:bj h false 1 (.p v.blk (v.off+i*5+4))=some m[i].2:=ka J rfl;have w:=q.k.get s 1;have N:us[i].kids[k]=t0[i].kids[k]:=by
   have e:=l.at_ d hi;have:us[i].kids=shl (λx=>x - (f:Int)) k t0[i].kids:=by rw[e];rfl
   simp only[this];exact J2 t
  rw[N]at w;have Y:=B i hi t0[i].kids[k] (bK _);have Z:=A i hi;have O:m[i].2≠.ns:=by
   intro h;have:=q.k;rw[h]at this;rcases this.2 with g | ⟨⟨b,o,c,g,_⟩,_⟩
   ·have:=g.2;omega
   ·rcases g with g | g
    ·cases g.1
    ·cases g
  have y:m[i].2=.su m[i].2.blk 0 us[i].kids.length 1/\h m[i].2.blk=some (.c (cO .i64 us[i].kids) 3 0):=by
   rcases q.ko with g | g
   ·simp[g]at s
   ·exact g
  have P:n0.num<=m[i].2.blk.num:=by
   rcases q.kr with g | g
   ·exact absurd g O
   ·omega
  have R:m[i].2.off=0:=by rw[y.1];rfl
  refine ax ?_;refine ε<|ay U U<|δ ?_;refine θ<|ah U (by simp<;>omega)<|Ω ?_;refine θ<|aj<|ε<|γ U<|γ U<|δ ?_;refine aA<|γ U<|γ U<|aB U U hs d<|σ U<|ξ U M<|γ U<|aB U U q.k s<|ξ U w<|γ U<|gG U U ⟨by omega,by omega⟩<|aB U U q.k s<|aH U U y.2 (sX (i:=k) s _ (by rw[R];omega)) <| λh1 S b1=>δ ?_;have z:bm m[i].2.blk h h1:=b1;have T:h1 m[i].2.blk=some (.c (cO .i64 (us[i].kids.set k (t0[i].kids[k] - f))) 3 0):=S;refine aA<|aX U U ⟨by omega,by omega⟩<|γ U<|δ ?_;exact χ (ih (k+1) _ h1 (by omega) (by omega) (he.ab z P) (j.J1 d u s z T) (l.set d hi t)) (ρ.rf U)
def ajR(hlen:t0.length<100000)(hf:f<100000)(j:∀i (hi:i<t0.length),t0[i].kids.length<1000000)(l:∀i (hi:i<t0.length),∀k∈t0[i].kids,0<=k/\k<1000000)(o:n0.num<=lo.num){Q1:Ex->Env->Hf->K->Prop}
 (p:∀h E',Ext h0 n0 h n->TO h lo n v (t0.map (Ga f)) m->ρ [(k6,v)] E'->Q1 .normal E' h n):
 ∀(r i:Nat) (us:List Nd) (h:Hf),t0.length - i=r->i<=t0.length->Ext h0 n0 h n->TO h lo n v us m->lH (λx=>x - (f:Int)) t0 us i 0->WC C Qa [(k5,iN f),(k6,v),(A1,iN t0.length),(FW,iN i)] h n (blk 0 Q1):=by
 intro r
 induction r with
 | zero=>
  intro i us h q hi he b a;have:i=t0.length:=by omega
  subst this;obtain⟨cs,hs⟩:=(show aZ h n v us from⟨m,b.tm⟩).sl;have s:=a.len;refine ax ?_;refine ε<|ay U U<|δ ?_;exact θ<|ae U (by simp)<|aJ (p h _ he (by have e:=a.done;subst e;exact b) (ρ.rf U))
 | succ r ih=>
  intro i us h q hi he b a;obtain⟨cs,hs⟩:=(show aZ h n v us from⟨m,b.tm⟩).sl;have s:=a.len;have c:i<t0.length:=by omega
  have d:i<us.length:=by rw[a.len];exact c
  obtain⟨vv,kv,g⟩:=(show aZ h n v us from⟨m,b.tm⟩).node d;have hl:us[i].kids.length=t0[i].kids.length:=by rw[a.at_ d c];exact wV _ _ _
  refine ax ?_;refine ε<|ay U U<|δ ?_;refine θ<|ah U (by simp<;>omega)<|Ω ?_;refine θ<|aj<|ε<|γ U<|γ U<|δ ?_;refine ε<|γ U<|γ U<|aB U U hs d<|σ U<|ξ U (g.ks _)<|al U g.kids<|γ U<|δ ?_;rw[hl];refine aj<|χ (ajQ hlen hf j l c o ?_ _ 0 us h rfl (by omega) he b a) (ρ.rf U);intro t h1 E1 u w c1 s1;refine bS s1 ?_;refine aA<|aX U U ⟨by omega,by omega⟩<|γ U<|δ ?_;exact χ (ih (i+1) t h1 (by omega) (by omega) u w c1) (ρ.rf U)
end
def w69(a:Cd C){t:V}{ts:List Nd}{i:Nat}(ht:aZ h n t ts)(hb:Bd ts)(hi:i<ts.length)(b:∀j,j<ts.length->ord ts j=true)
 (l:∀v' h' n',Ext h n h' n'->TG h' n n' v' (part ts i)->Q v' h' n'):ν C (.f 69 [] []) [t,iN i] h n Q:=by
 refine ν.go a.f69 U ?_;have hlen:=hb.len;have B:=nW ts i;obtain⟨cs,hs⟩:=ht.sl;refine ε<|γ U<|δ ?_;refine ε<|γ U<|γ U<|ψ U U<|Jn a.f102 ht (by omega) hi (λj hj=>b j (by omega))<|γ U<|δ ?_;generalize hf:fs ts i=f at*;refine ε<|γ U<|γ U<|γ U<|gT U U (show(i:Int)+1=((i+1:Nat):Int) from rfl) ⟨by omega,by omega⟩<|A6 U hs U U ((show f<=i+1 by omega)) ((show i+1<=ts.length by omega)) <| λD o l2=>ψ U U<|Ff a (aZ.sub ht (by omega) hs o) (hb.sub _ _) <| λvo m p r s c=>γ U<|δ ?_;have E:((ts.drop f).take (i+1 - f)).length=i+1 - f:=by simp;omega
 have d:=hb.sub f (i+1 - f);have u:∀q (w:q<((ts.drop f).take (i+1 - f)).length),∀k∈((ts.drop f).take (i+1 - f))[q].kids,0<=k/\k<1000000:=by
  intro q w k g;have e:((ts.drop f).take (i+1 - f))[q]=ts[f+q]'(by omega):=by simp
  rw[e]at g;have:=yG (by omega) (b (f+q) (by omega)) k g;omega
 refine θ<|ε<|γ U<|al U c.sl<|γ U<|δ ?_;refine aj<|χ (ajR (h0:=h) (n0:=n) (lo:=n) d.len (by omega) d.gw u (φ _) ?_ _ 0 _ p rfl (by omega) s c (lH.start _ _)) (ρ.rf U);intro x E4 y z A;refine bS A ?_;refine ε<|γ U<|γ U<|δ (Γ ⟨_,rfl,l vo x r y (by unfold part;rw[hf];exact z.tg (φ _))⟩)
end
section
variable {C:Nat->Option aI}{h:Hf}{n:K}{Q:V->Hf->K->Prop}
def cC.bO{h h':Hf}{n:K}{w v:V}(h1:w=.ns\/w.blk.num<n.num)(h2:cC w v)(hs:∀k:K,k.num<n.num->(v=.ns\/k.num≠v.blk.num)->h' k=h k):w=.ns\/h' w.blk=h w.blk:=by
 rcases h1 with l | l
 ·exact Or.inl l
 ·rcases h2 with g | g | g
  ·exact Or.inl g
  ·exact Or.inr (hs _ l (Or.inl g))
  ·exact Or.inr (hs _ l (Or.inr g))
def RG(h:Hf)(n:K)(v:V)(x:Nd)(p:V×V):Prop:=du h n p.1 x.vars/\da h n .i64 p.2 x.kids/\cC p.1 v/\cC p.2 v
def RG.to{h h':Hf}{n:K}{v v':V}{x:Nd}{p:V×V}(a:RG h n v x p)(hs:∀k:K,k.num<n.num->(v=.ns\/k.num≠v.blk.num)->h' k=h k)(hv:v'=v\/n.num<=v'.blk.num):RG h' n v' x p:=by
 have l1:=κ.cP a.1;have l2:=κ.cP a.2.1;refine⟨κ.eD a.1 (cC.bO l1 a.2.2.1 hs) (φ _),κ.eD a.2.1 (cC.bO l2 a.2.2.2 hs) (φ _),?_,?_⟩
 ·rcases hv with g | g
  ·rw[g];exact a.2.2.1
  ·exact cC.of l1 (Or.inr g)
 ·rcases hv with g | g
  ·rw[g];exact a.2.2.2
  ·exact cC.of l2 (Or.inr g)
def RG.up{h:Hf}{n n':K}{v:V}{x:Nd}{p:V×V}(a:RG h n v x p)(b:n.num<=n'.num):RG h n' v x p:=⟨κ.up a.1 b,κ.up a.2.1 b,a.2.2⟩
def TO.on{h h':Hf}{lo n:K}{v:V}{us:List Nd}{m:List (V×V)}(a:TO h lo n v us m)(hs:∀k:K,lo.num<=k.num->k.num<n.num->h' k=h k):TO h' lo n v us m:=by
 have key:∀{w:V},(w=.ns\/w.blk.num<n.num)->(w=.ns\/lo.num<=w.blk.num)->w=.ns\/h' w.blk=h w.blk:=by
  intro w h1 h2;rcases h1 with g | g
  ·exact Or.inl g
  ·rcases h2 with k | k
   ·exact Or.inl k
   ·exact Or.inr (hs _ k g)
 refine⟨κ.eD a.sl (key (κ.cP a.sl) a.ge) (φ _),cz.mono (λx p r=>?_) a.rows,a.pw,a.ge⟩;have d:=key (κ.cP r.b) r.vr;have c:=key (κ.cP r.k) r.kr;refine⟨κ.eD r.b d (φ _),κ.eD r.k c (φ _),?_,r.kr,r.vr,r.vk,r.vt,r.kt⟩;rcases r.ko with g | g
 ·exact Or.inl g
 ·rcases c with e | e
  ·have:=g.1;rw[e]at this;cases this
  ·exact Or.inr ⟨g.1,by rw[e];exact g.2⟩
section
variable {h0 hS:Hf}{lo n0 n1:K}{f:Nat}{ts us:List Nd}{v vc vo:V}{mc mo:List (V×V)}
def ajS(hlen:ts.length<100000)(hf:f<1000000)(A:∀i (hi:i<ts.length),ts[i].kids.length<1000000)(B:∀i (hi:i<ts.length),∀k∈ts[i].kids,0<=k/\k<1000000){i:Nat}(hi:i<ts.length)(P:mc.length=ts.length){b:K}(hb:n1.num<=b.num){Q1:Ex->Env->Hf->K->Prop}{L:Nat}{hI:Hf}
 (D:hI b=some (.c (bW ts[i] (mc[i]'(by omega)).1 (mc[i]'(by omega)).2) 87 0))
 (E:∀a h E',(∀k:K,((mc[i]'(by omega)).2=.ns\/k.num≠(mc[i]'(by omega)).2.blk.num)->h k=hI k)->TO h lo n1 vc a mc->lH (λx=>x+(f:Int)) ts a (i+1) 0->ρ [(k0,v),(k5,iN f),(rS,vc),(uY,iN L),(A0,iN i),(k7,.p b 0)] E'->Q1 .normal E' h n):
 ∀(r k:Nat) (a:List Nd) (h:Hf),ts[i].kids.length - k=r->k<=ts[i].kids.length->(∀k:K,((mc[i]'(by omega)).2=.ns\/k.num≠(mc[i]'(by omega)).2.blk.num)->h k=hI k)->TO h lo n1 vc a mc->lH (λx=>x+(f:Int)) ts a i k->WC C acx [(k0,v),(k5,iN f),(rS,vc),(uY,iN L),(A0,iN i),(k7,.p b 0),(FW,.i .i64 (ts[i].kids.length:Nat)),(FX,iN k)] h n (blk 2 Q1):=by
 intro r
 induction r with
 | zero=>
  intro k a h F G he s d;have H:k=ts[i].kids.length:=by omega
  subst H;refine ax ?_;refine ε<|ay U U<|δ ?_;exact θ<|ae U (by simp)<|aJ (E a h _ he s (lH.next (by rw[df hi];exact d)) (ρ.rf U))
 | succ r ih=>
  intro k a h F G he s d;have t:k<ts[i].kids.length:=by omega
  have l:i<a.length:=by rw[d.len];exact hi
  have u:i<mc.length:=by omega
  have m:=s.rows.get i l u;have hl:a[i].kids.length=ts[i].kids.length:=by rw[d.at_ l hi];exact wV _ _ _
  have j:k<a[i].kids.length:=by omega
  have w:=m.k.get j 1;have I:a[i].kids[k]=ts[i].kids[k]:=by
   have e:=d.at_ l hi;have:a[i].kids=shl (λx=>x+(f:Int)) k ts[i].kids:=by rw[e];rfl
   simp only[this];exact J2 t
  rw[I]at w;have R:=B i hi ts[i].kids[k] (bK _);have S:=A i hi;have o:mc[i].2=.su mc[i].2.blk 0 a[i].kids.length 1/\h mc[i].2.blk=some (.c (cO .i64 a[i].kids) 3 0):=by
   rcases m.ko with g | g
   ·simp[g]at j
   ·exact g
  have T:mc[i].2.blk.num<n1.num:=by
   rcases κ.cP m.k with g | g
   ·rw[g]at o;cases o.1
   ·exact g
  have J:mc[i].2.off=0:=by rw[o.1];rfl
  have M:=(he b (Or.inr (by omega))).trans D;refine ax ?_;refine ε<|ay U U<|δ ?_;refine θ<|ah U (by simp<;>omega)<|Ω ?_;refine θ<|aj<|ε<|γ U<|γ U<|δ ?_;refine aA<|σ U<|ξ U (cE M rfl _)<|γ U<|aB U U m.k j<|ξ U w<|γ U<|aX U U ⟨by omega,by omega⟩<|aB U U m.k j<|aH U U o.2 (sX (i:=k) j _ (by rw[J];omega)) <| λh1 N b1=>δ ?_;have y:bm mc[i].2.blk h h1:=b1;have O:h1 mc[i].2.blk=some (.c (cO .i64 (a[i].kids.set k (ts[i].kids[k]+f))) 3 0):=N;refine aA<|aX U U ⟨by omega,by omega⟩<|γ U<|δ ?_;exact χ (ih (k+1) _ h1 (by omega) (by omega) (λq z=>(y q (z.resolve_left (by rw[o.1];intro h;cases h))).trans (he q z)) (s.J1 l u j y O) (d.set l hi t)) (ρ.rf U)
def ajU(hlen:ts.length<100000)(hf:us.length=f)(Kj:f<1000000)(I:∀i (hi:i<ts.length),ts[i].kids.length<1000000)(fO:∀i (hi:i<ts.length),∀k∈ts[i].kids,0<=k/\k<1000000)(Gn:mc.length=ts.length)(hmo:mo.length=us.length)
 (dO:n0.num<=lo.num)(cA:lo.num<=n1.num)(hvo:vo=.ns\/vo.blk.num<lo.num){Q1:Ex->Env->Hf->K->Prop}
 (hQ:∀v h n E',Gr h0 n0 h n 87 5 v (us.length+ts.length) (ca (us++ts.map (gY λx=>x+(f:Int))) (mo++mc))->(v=vo\/n1.num<=v.blk.num)->cz (RG h lo v) us mo->TO h lo n1 vc (ts.map (gY λx=>x+(f:Int))) mc->n1.num<=n.num->(∀k:K,k.num<lo.num->(vo=.ns\/k.num≠vo.blk.num)->h k=hS k)->ρ [(k0,v)] E'->Q1 .normal E' h n):
 ∀(r i:Nat) (v:V) (d:List Nd) (h:Hf) (n:K),ts.length - i=r->i<=ts.length->n1.num<=n.num->Gr h0 n0 h n 87 5 v (us.length+i) (ca (us++(ts.take i).map (gY λx=>x+(f:Int))) (mo++mc.take i))->(v=vo\/n1.num<=v.blk.num)->cz (RG h lo v) us mo->TO h lo n1 vc d mc->lH (λx=>x+(f:Int)) ts d i 0->(∀k:K,k.num<lo.num->(vo=.ns\/k.num≠vo.blk.num)->h k=hS k)->WC C P7 [(k0,v),(k5,iN f),(rS,vc),(uY,iN ts.length),(A0,iN i)] h n (blk 0 Q1):=by
 intro r
 induction r with
 | zero=>
  intro i v d h n hr hi u w hv A l o hS;have:i=ts.length:=by omega
  subst this;rw[eN,kI (by omega)]at w;have e:=o.done;subst e;refine ax ?_;refine ε<|ay U U<|δ ?_;exact θ<|ae U (by simp)<|aJ (hQ v h n _ w hv A l u hS (ρ.rf U))
 | succ r ih=>
  intro i v d h n hr hi u w hv A l o hS;have m:i<ts.length:=by omega
  have q:i<d.length:=by rw[o.len];exact m
  have y:i<mc.length:=by omega
  have J:=l.rows.get i q y;have M:d[i]=ts[i]:=by rw[o.at_ q m,J3];rfl
  have eG:bj h true 5 (.p vc.blk (vc.off+i*5))=some (.a (bW ts[i] mc[i].1 mc[i].2)):=by have:=l.sl.jP (i:=i*5) (sz:=5) (by omega) (by omega);rw[sF l.rows.len q,M]at this;exact this
  have B:=jm ts[i] (κ.one J.b) (κ.one J.k);have tf:=I i m;refine ax ?_;refine ε<|ay U U<|δ ?_;refine θ<|ah U (by simp<;>omega)<|Ω ?_;refine θ<|aj<|ε<|aB U U l.sl q<|ξ U eG<|bA <| λh2 N dS a2 e2=>aH U U a2 (cj rfl rfl B) <| λj a3 b3=>δ ?_;have tc:bm n h2 j:=b3;have x3:Ext h n j N:=e2.ab tc (φ _);have D:j n=some (.c (bW ts[i] mc[i].1 mc[i].2) 87 0):=a3;have O:TO j lo n1 vc d mc:=l.on λk _ h2=>x3.2 k (by omega);have P:=(O.rows.get i q y).k;rw[M]at P;have z:=w.on x3;have Dh:cz (RG j lo v) us mo:=cz.mono (λx p a=>a.to (λk h1 _=>x3.2 k (by omega)) (Or.inl U)) A;refine θ<|ε<|σ U<|ξ U (cE D rfl _)<|al U P<|γ U<|δ ?_;refine aj<|χ (ajS (L:=ts.length) (b:=n) (hI:=j) hlen Kj I fO m Gn u D ?_ _ 0 d j rfl (by omega) (λ_ _=>rfl) O o) (ρ.rf U);intro uc4 E E4 b4 R c4 s4;refine bS s4 ?_;have S:=R.rows.get i (by rw[c4.len];exact m) y;have ajW:mc[i].2=.ns\/(lo.num<=mc[i].2.blk.num/\mc[i].2.blk.num<n1.num):=by
   rcases S.kr with g | g
   ·exact Or.inl g
   ·exact(κ.cP S.k).imp id λk=>⟨g,k⟩
  have s:∀k:K,(k.num<lo.num\/n1.num<=k.num)->E k=j k:=λk T=>b4 k (ajW.imp id λg=>by omega);have W:v=.ns\/(v.blk.num<lo.num\/n1.num<=v.blk.num):=by
   rcases hv with g | g
   ·rw[g];exact hvo.imp id Or.inl
   ·exact Or.inr (Or.inr g)
  have F:Gr h0 n0 E N 87 5 v (us.length+i) (ca (us++(ts.take i).map (gY λx=>x+(f:Int))) (mo++mc.take i)):=
   ⟨⟨z.ext.1,λk T=>by rw[s k (Or.inl (by omega)),z.ext.2 k T]⟩,z.own.ext (W.imp id λg=>s _ g),z.at_⟩
  have a4:=(s n (Or.inr u)).trans D;have n02:=x3.1;refine aA<|γ U<|ξ U (bc a4 (iL rfl))<|eg (yH rfl B rfl) <| λh6 n6 jl a6 t=>jF U ((F.on t).own) U (κ.whole (len:=1) (by omega) a6 rfl) (by omega) (by omega) (by omega) (by omega) B ((F.on t).lt) <| λv8 X n8 o8 G sY Y=>γ U<|δ ?_;have Z:=(F.on t).app o8 G sY Y;have n06:=t.1;have JT:ca (us++(ts.take i).map (gY λx=>x+(f:Int))) (mo++mc.take i)++bW ts[i] mc[i].1 mc[i].2=ca (us++(ts.take (i+1)).map (gY λx=>x+(f:Int))) (mo++mc.take (i+1)):=by rw[fL m,fL y,List.map_append,←pO,←pO];exact(uw (by simp;omega) [gY (λx=>x+(f:Int)) ts[i]] [mc[i]]).symm
  rw[JT]at Z;have H:∀k:K,k.num<n1.num->(v=.ns\/k.num≠v.blk.num)->X k=E k:=λk h1 h2=>by rw[Y k (by omega) h2,t.2 k (by omega)]
  refine aA<|aX U U ⟨by omega,by omega⟩<|γ U<|δ ?_;refine χ (ih (i+1) v8 uc4 X n8 (by omega) (by omega) (by omega) Z (Or.inr (by rw[G];omega)) (cz.mono (λx p a=>a.to (λk h1 h2=>by rw[H k (by omega) h2,s k (Or.inl h1)]) (Or.inr (by rw[G];omega))) Dh) (R.on λk h1 h2=>H k h2 (W.imp id λg=>by omega)) c4 λk h1 h2=>?_) (ρ.rf U);rw[H k (by omega) (hv.elim (λg=>by rw[g];exact h2) (λg=>Or.inr (by omega))),s k (Or.inl h1),x3.2 k (by omega),hS k h1 h2]
end
def ajX(o:Cd C){h0:Hf}{n0:K}{vo t:V}{us ts:List Nd}{mo:List (V×V)}(c:Gr h0 n0 h n 87 5 vo us.length (ca us mo))(q:cz (RG h n vo) us mo)(s:us.length<1000000)(ht:aZ h n t ts)(hb:Bd ts)(u:∀i (hi:i<ts.length),∀k∈ts[i].kids,0<=k/\k<1000000)
 (w:∀v' mc h' n',n.num<=n'.num->Gr h0 n0 h' n' 87 5 v' (us++ts.map (gY λx=>x+(us.length:Int))).length (ca (us++ts.map (gY λx=>x+(us.length:Int))) (mo++mc))->cz (RG h' n' v') (us++ts.map (gY λx=>x+(us.length:Int))) (mo++mc)->(∀k:K,k.num<n.num->(vo=.ns\/k.num≠vo.blk.num)->h' k=h k)->(v'=vo\/n.num<=v'.blk.num)->(∀p∈mc,(p.1=.ns\/n.num<=p.1.blk.num)/\(p.2=.ns\/n.num<=p.2.blk.num))->Q v' h' n'):ν C (.f 140 [] []) [vo,t] h n Q:=by
 refine ν.go o.f140 U ?_;have hlen:=hb.len;refine ε<|γ U<|δ ?_;refine ε<|γ U<|al U c.sl<|γ U<|δ ?_;refine θ<|ε<|γ U<|ψ U U<|Ff o ht hb <| λvc mc h1 n1 d e=>al U e.sl<|γ U<|δ ?_;have y:=e.rows.len;have g1:=c.on d;have z:cz (RG h1 n vo) us mo:=cz.mono (λx p a=>a.to (λk h1 _=>d.2 k h1) (Or.inl U)) q;refine aj<|χ (ajU (hS:=h) (lo:=n) (n1:=n1) hlen rfl s hb.gw u y q.len c.ext.1 d.1 c.lt ?_ _ 0 vo ts h1 n1 rfl (by omega) (φ _) (by simpa using g1) (Or.inl U) z e (lH.start _ _) (λk h1 _=>d.2 k h1)) (ρ.rf U);intro v h2 A E2 B l D m r E F;refine bS F ?_;have G:=d.1;refine ε<|γ U<|γ U<|δ (Γ ⟨_,rfl,w v mc h2 A (by omega) (by simpa using B) ?_ E (l.imp id λg=>by omega) λp hp=>?_⟩)
 rotate_left
 ·obtain⟨j,hj,rfl⟩:=iX hp;have:=m.rows.get j (by rw[←m.rows.len];exact hj) hj;exact⟨this.vr,this.kr⟩
 refine cz.app (cz.mono (λx p a=>a.up (by omega)) D) (cz.mono (λx p a=>⟨κ.up a.b r,κ.up a.k r,?_,?_⟩) m.rows)
 ·rcases l with g | g
  ·rw[g];exact(cC.of c.lt a.vr).symm
  ·exact cC.of (κ.cP a.b) (Or.inr g)
 ·rcases l with g | g
  ·rw[g];exact(cC.of c.lt a.kr).symm
  ·exact cC.of (κ.cP a.k) (Or.inr g)
end
section
variable {C:Nat->Option aI}{h:Hf}{n:K}{Q:V->Hf->K->Prop}
def kE(s:List Nd×List Int)(t:List Nd):List Nd×List Int:=
 (s.1++t.map (gY λx=>x+(s.1.length:Int)),s.2++[((s.1.length+t.length:Nat):Int) - 1])
def dG(l:List (List Nd)):List Nd×List Int:=l.foldl kE ([],[])
def jr(x:Nd)(l:List (List Nd)):List Nd:=(dG l).1++[wk x (dG l).2]
def lens:List (List Nd)->Nat
 | []=>0
 | t::l=>t.length+lens l
def uP{l:List (List Nd)}{i:Nat}(hi:i<l.length):dG (l.take (i+1))=kE (dG (l.take i)) l[i]:=by show(l.take (i+1)).foldl kE _=_;rw[fL hi,List.foldl_append];rfl
def ajY:∀(l:List (List Nd)) (s:List Nd×List Int),(l.foldl kE s).1.length=s.1.length+lens l/\(l.foldl kE s).2.length=s.2.length+l.length:=by
 intro l
 induction l with
 | nil=>intro s;simp[lens]
 | cons t l ih=>
  intro s;have h1:=ih (kE s t);have h2:(kE s t).1.length=s.1.length+t.length:=by simp[kE]
  have a:(kE s t).2.length=s.2.length+1:=by simp[kE]
  refine⟨h1.1.trans ?_,h1.2.trans ?_⟩
  ·rw[h2];simp only[lens];omega
  ·rw[a];simp only[dy];omega
def nc(l:List (List Nd)):(dG l).1.length=lens l/\(dG l).2.length=l.length:=by have:=ajY l ([],[]);simpa[dG]using this
def Fg:∀(l:List (List Nd)) (i:Nat),lens (l.take i)<=lens l:=by
 intro l
 induction l with
 | nil=>intro i;simp
 | cons t l ih=>intro i;cases i with | zero=>simp[lens] | succ i=>have:=ih i;simp[lens];omega
structure Kd(l:List (List Nd)):Prop where
 len:l.length<100000
 sum:lens l<1000000
 bd:∀i (hi:i<l.length),Bd l[i]
 kr:∀i (hi:i<l.length),∀j (hj:j<l[i].length),∀k∈l[i][j].kids,0<=k/\k<1000000
section
variable {h0 h1:Hf}{n0 n1:K}{vt:V}{l:List (List Nd)}{x:Nd}{vv:V}
def iS.get{h:Hf}{n:K}{v:V}{l:List (List Nd)}(a:iS h n v l){i:Nat}(hi:i<l.length):∃w,bj h false 1 (.p v.blk (v.off+i*1))=some w/\aZ h n w l[i]:=by obtain⟨hs,h1,h2,b⟩:=a;exact⟨hs[i]'(by omega),h2.get (by rw[jz];exact J6 (by omega)) 1,b i (by omega) hi⟩
def iS.sl{h:Hf}{n:K}{v:V}{l:List (List Nd)}(a:iS h n v l):∃hs,κ h n 1 v l.length hs:=⟨a.choose,a.choose_spec.2.1⟩
def cz.and{P:Nd->V×V->Prop}{P':V×V->Prop}:∀{ts:List Nd} {m:List (V×V)},cz P ts m->(∀p∈m,P' p)->cz (λx p=>P x p/\P' p) ts m:=by
 intro ts
 induction ts with
 | nil=>intro m h _;cases m with | nil=>trivial | cons=>exact h.elim
 | cons x ts ih=>intro m h g;cases m with | nil=>exact h.elim | cons p m=>exact⟨⟨h.1,g p (by simp)⟩,ih h.2 λq a=>g q (by simp[a])⟩
def PK(a:V)(b:K)(p:V×V):Prop:=(cC p.1 a/\cC p.2 a)/\(p.1=.ns\/b.num<p.1.blk.num)/\(p.2=.ns\/b.num<p.2.blk.num)
def ajZ(hC:Cd C)(u:Kd l)(T:iS h0 n0 vt l){Q1:Ex->Env->Hf->K->Prop}
 (hQ:∀v b m h n E',n0.num<n.num->Gr h0 n0 h n 87 5 v (dG l).1.length (ca (dG l).1 m)->cz (RG h n v) (dG l).1 m->Gr h0 n0 h n 3 1 b (dG l).2.length (cO .i64 (dG l).2)->(v=.ns\/n0.num<v.blk.num)->(b=.ns\/n0.num<b.blk.num)->cC b v->(∀p∈m,PK b n0 p)->h n0=some (.c (bW x vv b) 87 0)->ρ [(k2,.p n0 0),(k5,v)] E'->Q1 .normal E' h n):
 ∀(r i:Nat) (v b:V) (m:List (V×V)) (h:Hf) (n:K),l.length - i=r->i<=l.length->n0.num<n.num->Gr h0 n0 h n 87 5 v (dG (l.take i)).1.length (ca (dG (l.take i)).1 m)->cz (RG h n v) (dG (l.take i)).1 m->Gr h0 n0 h n 3 1 b i (cO .i64 (dG (l.take i)).2)->(v=.ns\/n0.num<v.blk.num)->(b=.ns\/n0.num<b.blk.num)->cC b v->(∀p∈m,PK b n0 p)->h n0=some (.c (bW x vv b) 87 0)->WC C acw [(k2,.p n0 0),(k5,v),(k9,vt),(qg,iN l.length),(qh,iN i)] h n (blk 0 Q1):=by
 have gH:=u.len;have KE:=u.sum;intro r
 induction r with
 | zero=>
  intro i v b m h n B hi M q D s E F G N O;have:i=l.length:=by omega
  subst this;rw[eN]at q D s;refine ax ?_;refine ε<|ay U U<|δ ?_;exact θ<|ae U (by simp)<|aJ (hQ v b m h n _ M q D (by rw[(nc l).2];exact s) E F G N O (ρ.rf U))
 | succ r ih=>
  intro i v b m h n B hi M q D s E F G N O;have d:i<l.length:=by omega
  obtain⟨w,hw,tw⟩:=(T.ext q.ext).get d;obtain⟨cs,hs⟩:=(T.ext q.ext).sl;have F5:=(nc (l.take i)).1;have bP:=(nc (l.take i)).2;have Di:=Fg l i;have aj0:=Fg l (i+1);have W:=(nc (l.take (i+1))).1;rw[uP d]at W;simp only[kE,gp,kJ]at W;have tf:(dG (l.take i)).2.length=i:=by rw[bP];simp;omega
  refine ax ?_;refine ε<|ay U U<|δ ?_;refine θ<|ah U (by simp<;>omega)<|Ω ?_;refine θ<|aj<|ε<|aB U U hs d<|ξ U hw<|γ U<|δ ?_;refine ε<|γ U<|γ U<|ψ U U<|ajX hC q D (by omega) tw (u.bd i d) (u.kr i d) <| λv' y h2 H dS o P X Y KF=>γ U<|δ ?_;have I:=s.lt;have Z:h2 n0=some (.c (bW x vv b) 87 0):=(X n0 M (E.imp id λg=>by omega)).trans O;have WU:b=.ns\/h2 b.blk=h b.blk:=cC.bO I G X;have KH:Gr h0 n0 h2 H 3 1 b i (cO .i64 (dG (l.take i)).2):=⟨o.ext,s.own.ext WU,s.at_.imp id λg=>⟨g.1,by omega⟩⟩;have KI:v'=.ns\/n0.num<v'.blk.num:=by
   rcases Y with g | g
   ·rw[g];exact E
   ·exact Or.inr (by omega)
  have Gc:cC b v':=by
   rcases Y with g | g
   ·rw[g];exact G
   ·exact cC.of I (Or.inr g)
  have KJ:∀p∈m++y,PK b n0 p:=by
   intro p hp;rcases gQ.1 hp with g | g
   ·exact N p g
   ·have:=KF p g;exact⟨⟨(cC.of I this.1).symm,(cC.of I this.2).symm⟩,this.1.imp id λg=>by omega,this.2.imp id λg=>by omega⟩
  have tA:((dG (l.take i)).1++l[i].map (gY λx=>x+((dG (l.take i)).1.length:Int))).length=(dG (l.take i)).1.length+l[i].length:=by simp
  refine aA<|σ U<|ξ U (cE Z rfl _)<|γ U<|al U o.sl<|jR U U (show(((dG (l.take i)).1++l[i].map (gY λx=>x+((dG (l.take i)).1.length:Int))).length:Int) - 1=(((dG (l.take i)).1.length+l[i].length:Nat):Int) - 1 by rw[tA]) ⟨by omega,by omega⟩<|eg (mW rfl rfl rfl) <| λJ n3 gJ a3 t=>jF U ((KH.on t).own) U (κ.whole (len:=1) (by omega) a3 rfl) (by omega) (by omega) (by omega) (by omega) U ((KH.on t).lt) <| λL h4 z o4 A jZ s4=>σ U<|aH U U ((s4 n0 (by have:=t.1;omega) (F.imp id λg=>by omega)).trans ((t.2 n0 (by omega)).trans Z)) (wT o4.cells o4.one) <| λf a5 b5=>δ ?_;have oj:bm n0 h4 f:=b5;have n23:=t.1;have R:∀k:K,k.num<H.num->k.num≠n0.num->(b=.ns\/k.num≠b.blk.num)->f k=h2 k:=λk h1 h2 J=>by rw[oj k h2,s4 k (by omega) J,t.2 k h1]
  have bO:∀{w:V},(w=.ns\/w.blk.num<H.num)->(w=.ns\/n0.num<w.blk.num)->cC b w->w=.ns\/f w.blk=h2 w.blk:=by
   intro w h1 h2 J;rcases h1 with g | g
   ·exact Or.inl g
   ·rcases h2 with k | k
    ·exact Or.inl k
    ·rcases J with e | e | e
     ·exact Or.inr (R _ g (by omega) (Or.inl e))
     ·exact Or.inl e
     ·exact Or.inr (R _ g (by omega) (Or.inr (Ne.symm e)))
  have x5:Ext h0 n0 f z:=o.ext.trans' (by omega) λk u=>R k (by omega) (by omega) (F.imp id λg=>by omega);have g5:Gr h0 n0 f z 87 5 v' ((dG (l.take i)).1++l[i].map (gY λx=>x+((dG (l.take i)).1.length:Int))).length (ca ((dG (l.take i)).1++l[i].map (gY λx=>x+((dG (l.take i)).1.length:Int))) (m++y)):=
   ⟨x5,o.own.ext (bO o.lt KI Gc),o.at_.imp id λg=>⟨g.1,by omega⟩⟩
  have WV:cz (RG f z v') ((dG (l.take i)).1++l[i].map (gY λx=>x+((dG (l.take i)).1.length:Int))) (m++y):=
   cz.mono (λx p a=>⟨κ.eD a.1.1 (bO (κ.cP a.1.1) a.2.2.1 a.2.1.1.symm) (by omega),κ.eD a.1.2.1 (bO (κ.cP a.1.2.1) a.2.2.2 a.2.1.2.symm) (by omega),a.1.2.2⟩) (P.and KJ)
  have WX:Gr h0 n0 f z 3 1 L (i+1) (cO .i64 ((dG (l.take i)).2++[(((dG (l.take i)).1.length+l[i].length:Nat):Int) - 1])):=by refine⟨x5,?_,Or.inr ⟨by rw[A];omega,by rw[A];omega⟩⟩;rw[HP];exact o4.ext (Or.inr (oj _ (by rw[A];omega)))
  have S:∀{w:V},(w=.ns\/w.blk.num<H.num)->cC w L:=λh=>cC.of h (Or.inr (by rw[A];omega));have WY:∀p∈m++y,PK L n0 p:=by intro p hp;obtain⟨j,hj,rfl⟩:=iX hp;have B:=P.get j (by rw[←P.len];exact hj) hj;have:=KJ _ hp;exact⟨⟨S (κ.cP B.1),S (κ.cP B.2.1)⟩,this.2⟩
  refine aA<|aX U U ⟨by omega,by omega⟩<|γ U<|δ ?_;refine χ (ih (i+1) v' L (m++y) f z (by omega) (by omega) (by omega) ?_ ?_ ?_ KI (Or.inr (by rw[A];omega)) (S o.lt).symm WY a5) (ρ.rf U)
  ·rw[uP d];exact g5
  ·rw[uP d];exact WV
  ·rw[uP d];exact WX
end
def w64(t:Cd C){vt vv kv:V}{x:Nd}{l:List (List Nd)}(u:Kd l)(D:iS h n vt l)(hv:du h n vv x.vars)(T:kv.one=true)(mP:x.vars.length<1000000)
 (W:∀v h' n',Ext h n h' n'->TG h' n n' v (jr x l)->Q v h' n'):ν C (.f 64 [] []) [.a (bW x vv kv),vt] h n Q:=by
 refine ν.go t.f64 U ?_;have X:=jm x (κ.one hv) T;have gH:=u.len;have KE:=u.sum;refine ε<|cR U U X <| λh1 n1 cA Y Z=>γ U<|δ ?_;refine ε<|γ U<|δ ?_;refine ε<|σ U<|aH U U Y (wT rfl rfl) <| λh2 a2 b2=>δ ?_;have wX:bm n h1 h2:=b2;have x2:Ext h n h2 n1:=Z.ab wX (φ _);obtain⟨cs,hs⟩:=(D.ext x2).sl;refine θ<|ε<|γ U<|al U hs<|γ U<|δ ?_;refine aj<|χ (ajZ (x:=x) (vv:=vv) t u D ?_ _ 0 .ns .ns [] h2 n1 rfl (by omega) (by omega) (Gr.ns x2) trivial (Gr.ns x2) (Or.inl U) (Or.inl U) (Or.inl U) (λp hp=>by cases hp) a2) (ρ.rf U);intro v d m q n3 E3 gJ y E F v1 k1 WZ G H s3;refine bS s3 ?_;have wM:=κ.ext hv y.ext;have F5:=(nc l).1;refine ε<|σ U<|ξ U (cE H rfl _)<|ψ U U<|KC t wM (by omega) <| λb z A x4 o4 I=>σ U<|aH U U ((x4.2 n gJ).trans H) (wS o4.sl.cells o4.sl.one) <| λJ a5 b5=>δ ?_;have L:bm n z J:=b5;have n34:=x4.1;have M:=jm (wk x (dG l).2) o4.sl.one F.sl.one;have B:=(y.on x4).ab L (φ _) (v1.imp id λg=>by omega);have BW:J n=some (.c (bW (wk x (dG l).2) b d) 87 0):=a5;refine ε<|γ U<|ξ U (bc BW (iL rfl))<|eg (yH rfl M rfl) <| λh6 n6 jl a6 j=>jF U ((B.on j).own) U (κ.whole (len:=1) (by omega) a6 rfl) (by omega) (by omega) (by omega) (by omega) M ((B.on j).lt) <| λv8 o r o8 N sY O=>γ U<|δ<|Γ ⟨_,rfl,?_⟩;have n46:=j.1;have P:=(B.on j).app o8 N sY O;have W0:=y.lt;have R:∀k:K,k.num<A.num->k.num≠n.num->(v=.ns\/k.num≠v.blk.num)->o k=z k:=λk h1 h2 q=>by rw[O k (by omega) q,j.2 k h1,L k h2]
 have bO:∀{w:V},(w=.ns\/w.blk.num<A.num)->(w=.ns\/n.num<w.blk.num)->cC w v->w=.ns\/o w.blk=z w.blk:=by
  intro w h1 h2 q;rcases h1 with g | g
  ·exact Or.inl g
  ·rcases h2 with k | k
   ·exact Or.inl k
   ·rcases q with e | e | e
    ·exact Or.inl e
    ·exact Or.inr (R _ g (by omega) (Or.inl e))
    ·exact Or.inr (R _ g (by omega) (Or.inr e))
 have s:A.num<=r.num:=by omega
 have S:b=.ns\/n.num<b.blk.num:=I.imp id λg=>by omega
 have rows:cz (λx p=>du o r p.1 x.vars/\da o r .i64 p.2 x.kids) (jr x l) (m++[(b,d)]):=by
  refine cz.app (cz.mono (λx p a=>?_) (E.and G)) ⟨⟨?_,?_⟩,trivial⟩
  ·have b1:=κ.ext a.1.1 x4;have k1:=κ.ext a.1.2.1 x4;exact⟨κ.eD b1 (bO (κ.cP b1) a.2.2.1 a.1.2.2.1) s,κ.eD k1 (bO (κ.cP k1) a.2.2.2 a.1.2.2.2) s⟩
  ·exact κ.eD o4.sl (bO (κ.cP o4.sl) S (cC.of W0 I).symm) s
  ·have k3:=κ.ext F.sl x4;exact κ.eD k3 (bO (κ.cP k3) k1 WZ) s
 have W1:b=.ns\/n.num<=b.blk.num:=S.imp id λg=>by omega
 have W2:d=.ns\/n.num<=d.blk.num:=k1.imp id λg=>by omega
 refine W v8 o r P.ext ⟨m++[(b,d)],⟨rows.len,?_,λi hi=>rows.get i hi (by rw[rows.len];exact hi)⟩,Or.inr (by rw[N];omega),λp hp=>?_⟩
 rotate_left
 ·rcases gQ.1 hp with g | g
  ·have:=G p g;exact⟨this.2.1.imp id λg=>by omega,this.2.2.imp id λg=>by omega⟩
  ·rw[iZ]at g;subst g;exact⟨W1,W2⟩
 have:=P.sl;unfold jr;rw[uw E.len,gp];exact this
end
section
variable {C:Nat->Option aI}{h:Hf}{n:K}{Q:V->Hf->K->Prop}
section
variable {h1:Hf}{n1 b:K}{x:Nd}{vv kv u1 u2 u5 u6 u8:V}{f:Nat}
def aj2(hf:f<1000000)(hb:b.num<n1.num)(d:h1 b=some (.c (bW x vv kv) 87 0))(o:da h1 n1 .i64 kv x.kids)(F:x.kids.length<1000000)(q:∀k∈x.kids,0<=k/\k<1000000){Q1:Ex->Env->Hf->K->Prop}
 (s:∀w h n E',Gr h1 n1 h n 3 1 w x.kids.length (cO .i64 (x.kids.map λk=>k+(f:Int)))->ρ [(k1,u1),(k2,u2),(k5,u5),(k6,u6),(k7,iN f),(k8,u8),(k9,.p b 0),(qg,w)] E'->Q1 .normal E' h n):
 ∀(r j:Nat) (w:V) (h:Hf) (n:K),x.kids.length - j=r->j<=x.kids.length->Gr h1 n1 h n 3 1 w j (cO .i64 ((x.kids.take j).map λk=>k+(f:Int)))->WC C acB [(k1,u1),(k2,u2),(k5,u5),(k6,u6),(k7,iN f),(k8,u8),(k9,.p b 0),(qg,w),(qh,iN j)] h n (blk 4 Q1):=by
 intro r
 induction r with
 | zero=>
  intro j w h n t hj a;have:j=x.kids.length:=by omega
  subst this;rw[eN]at a;refine ax ?_;refine θ<|ε<|γ U<|σ U<|ξ U (cE ((a.ext.2 b hb).trans d) U _)<|al U (o.ext a.ext)<|ay U U<|δ ?_;exact ae U (by simp)<|aJ (s w h n _ a (ρ.rf U))
 | succ r ih=>
  intro j w h n t hj a;have e:j<x.kids.length:=by omega
  have G:=q x.kids[j] (bK _);have g:=o.ext a.ext;refine ax ?_;refine θ<|ε<|γ U<|σ U<|ξ U (cE ((a.ext.2 b hb).trans d) U _)<|al U g<|ay U U<|δ ?_;refine ah U (by simp<;>omega)<|Ω ?_;refine θ<|aj<|aA<|γ U<|σ U<|ξ U (cE ((a.ext.2 b hb).trans d) U _)<|γ U<|aB U U g e<|ξ U (g.get e _)<|γ U<|aX U U ⟨by omega,by omega⟩<|eg (mW rfl rfl rfl) <| λh2 H I u m=>jF U ((a.on m).own) U (κ.whole (len:=1) (by omega) u rfl) (by omega) (by omega) (by omega) (by omega) U ((a.on m).lt) <| λv y z o4 A B D=>γ U<|δ ?_;have E:=(a.on m).app o4 A B D;refine aA<|γ U<|aX U U ⟨by omega,by omega⟩<|γ U<|δ ?_;refine χ (ih (j+1) v y z (by omega) (by omega) ?_) (ρ.rf U);rw[fL e,List.map_append,HP];exact E
end
section
variable {h0 hS:Hf}{n0 nS:K}{us ts:List Nd}{vo vt w u2:V}{mo:List (V×V)}{i:Nat}{l:List (List Nd)}
def aj3(τ:iS hS nS vt l)(hi:i<l.length)(hli:l.length<1000000)(T:l[i]=ts)(hb:Bd ts)(fO:∀i (hi:i<ts.length),∀k∈ts[i].kids,0<=k/\k<1000000)(WS:us.length<1000000)(hvo:vo=.ns\/vo.blk.num<nS.num)(hvt:∀k:K,k.num<n0.num->hS k=h0 k)(vD:n0.num<=nS.num)(D:iS h0 n0 vt l){Q1:Ex->Env->Hf->K->Prop}
 (hQ:∀v d h n E',nS.num<=n.num->Gr h0 n0 h n 87 5 v (us++ts.map (gY λx=>x+(us.length:Int))).length (ca (us++ts.map (gY λx=>x+(us.length:Int))) (mo++d))->cz (RG h n v) (us++ts.map (gY λx=>x+(us.length:Int))) (mo++d)->(∀k:K,k.num<nS.num->(vo=.ns\/k.num≠vo.blk.num)->h k=hS k)->(v=vo\/nS.num<=v.blk.num)->(∀p∈d,(p.1=.ns\/nS.num<=p.1.blk.num)/\(p.2=.ns\/nS.num<=p.2.blk.num))->ρ [(k1,vt),(k2,u2),(k5,v),(k6,iN i),(k7,iN us.length)] E'->Q1 .normal E' h n):
 ∀(r q:Nat) (v:V) (d:List (V×V)) (h:Hf) (n:K),ts.length - q=r->q<=ts.length->nS.num<=n.num->Gr h0 n0 h n 87 5 v (us++(ts.take q).map (gY λx=>x+(us.length:Int))).length (ca (us++(ts.take q).map (gY λx=>x+(us.length:Int))) (mo++d))->cz (RG h n v) (us++(ts.take q).map (gY λx=>x+(us.length:Int))) (mo++d)->(∀k:K,k.num<nS.num->(vo=.ns\/k.num≠vo.blk.num)->h k=hS k)->(v=vo\/nS.num<=v.blk.num)->(∀p∈d,(p.1=.ns\/nS.num<=p.1.blk.num)/\(p.2=.ns\/nS.num<=p.2.blk.num))->WC C P9 [(k1,vt),(k2,u2),(k5,v),(k6,iN i),(k7,iN us.length),(k8,iN q)] h n (blk 2 Q1):=by
 have hlen:=hb.len;intro r
 induction r with
 | zero=>
  intro q v d h n hr hq W m z hm hv N;have:q=ts.length:=by omega
  subst this;rw[eN]at m z;obtain⟨w,E,s⟩:=(D.ext m.ext).get hi;obtain⟨cs,hs⟩:=(D.ext m.ext).sl;rw[T]at s;obtain⟨cw,F⟩:=s.sl;refine ax ?_;refine θ<|ε<|γ U<|γ U<|γ U<|aB U U hs hi<|ξ U E<|al U F<|ay U U<|δ ?_;exact ae U (by simp)<|aJ (hQ v d h n _ W m z hm hv N (ρ.rf U))
 | succ r ih=>
  intro q v d h n hr hq W m z hm hv N;have t:q<ts.length:=by omega
  obtain⟨w,E,s⟩:=(D.ext m.ext).get hi;obtain⟨cs,hs⟩:=(D.ext m.ext).sl;rw[T]at s;obtain⟨cw,F⟩:=s.sl;obtain⟨vv,kv,A⟩:=s.node t;have bf:=jm ts[q] (κ.one A.vars) (κ.one A.kids);have bP:=hb.gw q t;have mP:=hb.vl q t;refine ax ?_;refine θ<|ε<|γ U<|γ U<|γ U<|aB U U hs hi<|ξ U E<|al U F<|ay U U<|δ ?_;refine ah U (by simp<;>omega)<|Ω ?_;refine θ<|aj<|ε<|γ U<|γ U<|aB U U hs hi<|ξ U E<|γ U<|aB U U F t<|ξ U A.all<|bA <| λh2 n2 dS a2 e2=>aH U U a2 (cj rfl rfl bf) <| λX Y b3=>δ ?_;have tc:bm n h2 X:=b3;have x3:Ext h n X n2:=e2.ab tc (φ _);have wM:=A.vars.ext x3;refine ε<|σ U<|ξ U (cE Y rfl _)<|yr U U wM (by omega) (by omega) (by omega) <| λe Z G o4 x4 H=>σ U<|aH U U ((x4.2 _ (by omega)).trans Y) (wS o4.cells o4.one) <| λI a5 b5=>δ ?_;have oj:bm n Z I:=b5;have x5:Ext h n I G:=(x3.trans x4).ab oj (φ _);have n24:=x4.1;have BW:I n=some (.c (bW ts[q] e kv) 87 0):=a5;refine ε<|γ U<|δ ?_;refine θ<|ε<|γ U<|δ ?_;refine aj<|χ (aj2 (b:=n) WS (by omega) BW (A.kids.ext x5) bP (fO q t) ?_ _ 0 .ns I G rfl (by omega) (Gr.ns (Ext.refl _ _))) (ρ.rf U);intro j J L E6 o s6;refine bS s6 ?_;have M:=o.ext;have n46:=M.1;have a6:=(M.2 n (by omega)).trans BW;refine ε<|γ U<|σ U<|aH U U a6 (wT o.sl.cells o.sl.one) <| λO a7 b7=>δ ?_;have j0:bm n J O:=b7;have P:Ext h n O L:=(x5.trans M).ab j0 (φ _);have CP:O n=some (.c (bW (gY (λx=>x+(us.length:Int)) ts[q]) e j) 87 0):=a7;have SW:=jm (gY (λx=>x+(us.length:Int)) ts[q]) o4.one o.own.one;have R:=m.on P;have tA:(us++(ts.take q).map (gY λx=>x+(us.length:Int))).length=us.length+q:=by simp;omega
  refine aA<|γ U<|ξ U (bc CP (iL rfl))<|eg (yH rfl SW rfl) <| λh8 n8 sY a8 u=>jF U ((R.on u).own) U (κ.whole (len:=1) (by omega) a8 rfl) (by rw[tA];omega) (by omega) (by rw[tA];omega) (by omega) SW ((R.on u).lt) <| λv9 y n9 o9 B F9 S=>γ U<|δ ?_;have g9:=(R.on u).app o9 B F9 S;have n27:=P.1;have n78:=u.1;have W0:=m.lt;have n02:=x3.1;have m9:∀k:K,k.num<n.num->(v=.ns\/k.num≠v.blk.num)->y k=h k:=λk h1 h2=>by rw[S k (by omega) h2,u.2 k (by omega),P.2 k h1]
  have m9':∀k:K,n.num<k.num->k.num<L.num->y k=J k:=λk h1 h2=>by rw[S k (by omega) (W0.imp id λg=>by omega),u.2 k h2,j0 k (by omega)]
  have l4:=κ.cP (o4.sl (n:=G) (H.imp id And.right));have f4:e=.ns\/y e.blk=Z e.blk:=H.imp id λg=>by rw[m9' _ (by omega) (by omega),M.2 _ g.2,oj _ (by omega)]
  have f6:j=.ns\/y j.blk=J j.blk:=o.at_.imp id λg=>m9' _ (by omega) g.2;have ge4:e=.ns\/n.num<=e.blk.num:=H.imp id λg=>by omega
  have ge6:j=.ns\/n.num<=j.blk.num:=o.at_.imp id λg=>by omega
  have sg4:e=.ns\/nS.num<=e.blk.num:=ge4.imp id λg=>by omega
  have sg6:j=.ns\/nS.num<=j.blk.num:=ge6.imp id λg=>by omega
  have row:RG y n9 v9 (gY (λx=>x+(us.length:Int)) ts[q]) (e,j):=by refine⟨κ.eD (o4.sl (n:=G) (H.imp id And.right)) f4 (by omega),?_,cC.of l4 (Or.inr (by rw[B];omega)),cC.of o.lt (Or.inr (by rw[B];omega))⟩;have:=o.sl;refine κ.eD (n:=L) ?_ f6 (by omega);show κ J L 1 j ((ts[q].kids.map λk=>k+(us.length:Int)).length) _;rw[kJ];exact this
  have etq:ts.take (q+1)=ts.take q++[ts[q]]:=fL t;have eus:us++(ts.take (q+1)).map (gY λx=>x+(us.length:Int))=(us++(ts.take q).map (gY λx=>x+(us.length:Int)))++[gY (λx=>x+(us.length:Int)) ts[q]]:=by rw[etq,List.map_append,←pO];rfl
  refine aA<|γ U<|aX U U ⟨by omega,by omega⟩<|γ U<|δ ?_;refine χ (ih (q+1) v9 (d++[(e,j)]) y n9 (by omega) (by omega) (by omega) ?_ ?_ ?_ (Or.inr (by rw[B];omega)) ?_) (ρ.rf U)
  ·rw[eus,←pO,uw z.len,gp];exact g9
  ·rw[eus,←pO];exact cz.app (cz.mono (λx p a=>(a.to m9 (Or.inr (by rw[B];omega))).up (by omega)) z) ⟨row,trivial⟩
  ·intro k h1 h2;rw[m9 k (by omega) (hv.elim (λg=>by rw[g];exact h2) λg=>Or.inr (by omega)),hm k h1 h2]
  ·intro p hp;rcases gQ.1 hp with g | g
   ·exact N p g
   ·rw[iZ]at g;subst g;exact⟨sg4,sg6⟩
end
section
variable {h0:Hf}{n0:K}{vt:V}{l:List (List Nd)}{x:Nd}{vv:V}
def aj6(hC:Cd C)(u:Kd l)(B:iS h0 n0 vt l){Q1:Ex->Env->Hf->K->Prop}
 (hQ:∀v d m h n E',n0.num<n.num->Gr h0 n0 h n 87 5 v (dG l).1.length (ca (dG l).1 m)->cz (RG h n v) (dG l).1 m->Gr h0 n0 h n 3 1 d (dG l).2.length (cO .i64 (dG l).2)->(v=.ns\/n0.num<v.blk.num)->(d=.ns\/n0.num<d.blk.num)->cC d v->(∀p∈m,PK d n0 p)->h n0=some (.c (bW x vv d) 87 0)->(du h n vv x.vars/\cC vv v/\cC vv d/\(vv=.ns\/n0.num<vv.blk.num))->ρ [(k2,.p n0 0),(k5,v)] E'->Q1 .normal E' h n):
 ∀(r i:Nat) (v d:V) (m:List (V×V)) (h:Hf) (n:K),l.length - i=r->i<=l.length->n0.num<n.num->Gr h0 n0 h n 87 5 v (dG (l.take i)).1.length (ca (dG (l.take i)).1 m)->cz (RG h n v) (dG (l.take i)).1 m->Gr h0 n0 h n 3 1 d i (cO .i64 (dG (l.take i)).2)->(v=.ns\/n0.num<v.blk.num)->(d=.ns\/n0.num<d.blk.num)->cC d v->(∀p∈m,PK d n0 p)->h n0=some (.c (bW x vv d) 87 0)->(du h n vv x.vars/\cC vv v/\cC vv d/\(vv=.ns\/n0.num<vv.blk.num))->WC C P8 [(k1,vt),(k2,.p n0 0),(k5,v),(k6,iN i)] h n (blk 0 Q1):=by
 have gH:=u.len;have KE:=u.sum;intro r
 induction r with
 | zero=>
  intro i v d m h n H hi S o I z J L M T W q;have:i=l.length:=by omega
  subst this;rw[eN]at o I z;obtain⟨cs,hs⟩:=(B.ext o.ext).sl;refine ax ?_;refine θ<|ε<|γ U<|γ U<|al U hs<|ay U U<|δ ?_;exact ae U (by simp)<|aJ (hQ v d m h n _ S o I (by rw[(nc l).2];exact z) J L M T W q (ρ.rf U))
 | succ r ih=>
  intro i v d m h n H hi S o I z J L M T W q;have s:i<l.length:=by omega
  obtain⟨w,hw,tw⟩:=(B.ext o.ext).get s;obtain⟨cs,hs⟩:=(B.ext o.ext).sl;have F5:=(nc (l.take i)).1;have bP:=(nc (l.take i)).2;have Di:=Fg l i;have aj0:=Fg l (i+1);have Ce:=(nc (l.take (i+1))).1;rw[uP s]at Ce;simp only[kE,gp,kJ]at Ce;have tf:(dG (l.take i)).2.length=i:=by rw[bP];simp;omega
  refine ax ?_;refine θ<|ε<|γ U<|γ U<|al U hs<|ay U U<|δ ?_;refine ah U (by simp<;>omega)<|Ω ?_;refine θ<|aj<|ε<|γ U<|al U o.sl<|γ U<|δ ?_;refine θ<|ε<|γ U<|δ ?_;refine aj<|χ (aj3 (hS:=h) (nS:=n) (mo:=m) (i:=i) (B.ext o.ext) s (by omega) U (u.bd i s) (u.kr i s) (by omega) o.lt (λk u=>o.ext.2 k u) o.ext.1 B ?_ _ 0 v [] h n rfl (by omega) (φ _) (by simpa using o) (by simpa using I) (λ_ _ _=>rfl) (Or.inl U) (λp hp=>by cases hp)) (ρ.rf U);intro v' D h2 E E2 dS y X Y Z KF sE;refine bS sE ?_;have N:=z.lt;have KG:h2 n0=some (.c (bW x vv d) 87 0):=(Y n0 S (J.imp id λg=>by omega)).trans W;have vl:=κ.cP q.1;have vv2:=cC.bO vl q.2.1 Y;have W3:du h2 E vv x.vars:=κ.eD q.1 vv2 dS;have vn2:cC vv v':=by
   rcases Z with g | g
   ·rw[g];exact q.2.1
   ·exact cC.of vl (Or.inr g)
  have WU:d=.ns\/h2 d.blk=h d.blk:=cC.bO N M Y;have KH:Gr h0 n0 h2 E 3 1 d i (cO .i64 (dG (l.take i)).2):=⟨y.ext,z.own.ext WU,z.at_.imp id λg=>⟨g.1,by omega⟩⟩;have KI:v'=.ns\/n0.num<v'.blk.num:=by
   rcases Z with g | g
   ·rw[g];exact J
   ·exact Or.inr (by omega)
  have Gc:cC d v':=by
   rcases Z with g | g
   ·rw[g];exact M
   ·exact cC.of N (Or.inr g)
  have KJ:∀p∈m++D,PK d n0 p:=by
   intro p hp;rcases gQ.1 hp with g | g
   ·exact T p g
   ·have:=KF p g;exact⟨⟨(cC.of N this.1).symm,(cC.of N this.2).symm⟩,this.1.imp id λg=>by omega,this.2.imp id λg=>by omega⟩
  have tA:((dG (l.take i)).1++l[i].map (gY λx=>x+((dG (l.take i)).1.length:Int))).length=(dG (l.take i)).1.length+l[i].length:=by simp
  refine aA<|σ U<|ξ U (cE KG rfl _)<|γ U<|al U y.sl<|jR U U (show(((dG (l.take i)).1++l[i].map (gY λx=>x+((dG (l.take i)).1.length:Int))).length:Int) - 1=(((dG (l.take i)).1.length+l[i].length:Nat):Int) - 1 by rw[tA]) ⟨by omega,by omega⟩<|eg (mW rfl rfl rfl) <| λO n3 gJ a3 A=>jF U ((KH.on A).own) U (κ.whole (len:=1) (by omega) a3 rfl) (by omega) (by omega) (by omega) (by omega) U ((KH.on A).lt) <| λP h4 F o4 G jZ s4=>σ U<|aH U U ((s4 n0 (by have:=A.1;omega) (L.imp id λg=>by omega)).trans ((A.2 n0 (by omega)).trans KG)) (wT o4.cells o4.one) <| λt a5 b5=>δ ?_;have oj:bm n0 h4 t:=b5;have n23:=A.1;have m5:∀k:K,k.num<E.num->k.num≠n0.num->(d=.ns\/k.num≠d.blk.num)->t k=h2 k:=λk h1 h2 O=>by rw[oj k h2,s4 k (by omega) O,A.2 k h1]
  have bO:∀{w:V},(w=.ns\/w.blk.num<E.num)->(w=.ns\/n0.num<w.blk.num)->cC d w->w=.ns\/t w.blk=h2 w.blk:=by
   intro w h1 h2 O;rcases h1 with g | g
   ·exact Or.inl g
   ·rcases h2 with k | k
    ·exact Or.inl k
    ·rcases O with e | e | e
     ·exact Or.inr (m5 _ g (by omega) (Or.inl e))
     ·exact Or.inl e
     ·exact Or.inr (m5 _ g (by omega) (Or.inr (Ne.symm e)))
  have x5:Ext h0 n0 t F:=y.ext.trans' (by omega) λk u=>m5 k (by omega) (by omega) (L.imp id λg=>by omega);have g5:Gr h0 n0 t F 87 5 v' ((dG (l.take i)).1++l[i].map (gY λx=>x+((dG (l.take i)).1.length:Int))).length (ca ((dG (l.take i)).1++l[i].map (gY λx=>x+((dG (l.take i)).1.length:Int))) (m++D)):=
   ⟨x5,y.own.ext (bO y.lt KI Gc),y.at_.imp id λg=>⟨g.1,by omega⟩⟩
  have WV:cz (RG t F v') ((dG (l.take i)).1++l[i].map (gY λx=>x+((dG (l.take i)).1.length:Int))) (m++D):=
   cz.mono (λx p a=>⟨κ.eD a.1.1 (bO (κ.cP a.1.1) a.2.2.1 a.2.1.1.symm) (by omega),κ.eD a.1.2.1 (bO (κ.cP a.1.2.1) a.2.2.2 a.2.1.2.symm) (by omega),a.1.2.2⟩) (X.and KJ)
  have WX:Gr h0 n0 t F 3 1 P (i+1) (cO .i64 ((dG (l.take i)).2++[(((dG (l.take i)).1.length+l[i].length:Nat):Int) - 1])):=by refine⟨x5,?_,Or.inr ⟨by rw[G];omega,by rw[G];omega⟩⟩;rw[HP];exact o4.ext (Or.inr (oj _ (by rw[G];omega)))
  have R:∀{w:V},(w=.ns\/w.blk.num<E.num)->cC w P:=λh=>cC.of h (Or.inr (by rw[G];omega));have WY:∀p∈m++D,PK P n0 p:=by intro p hp;obtain⟨j,hj,rfl⟩:=iX hp;have H:=X.get j (by rw[←X.len];exact hj) hj;have:=KJ _ hp;exact⟨⟨R (κ.cP H.1),R (κ.cP H.2.1)⟩,this.2⟩
  refine aA<|γ U<|aX U U ⟨by omega,by omega⟩<|γ U<|δ ?_;refine χ (ih (i+1) v' P (m++D) t F (by omega) (by omega) (by omega) ?_ ?_ ?_ KI (Or.inr (by rw[G];omega)) (R y.lt).symm WY a5 ⟨κ.eD W3 (bO (κ.cP W3) q.2.2.2 q.2.2.1.symm) (by omega),vn2,R (κ.cP W3),q.2.2.2⟩) (ρ.rf U)
  ·rw[uP s];exact g5
  ·rw[uP s];exact WV
  ·rw[uP s];exact WX
end
def w67(E:Cd C){vt vv kv:V}{x:Nd}{l:List (List Nd)}(y:Kd l)(R:iS h n vt l)(hv:du h n vv x.vars)(S:kv.one=true)(mP:x.vars.length<1000000)
 (T:∀v h' n',Ext h n h' n'->TG h' n n' v (jr x l)->Q v h' n'):ν C (.f 67 [] []) [.a (bW x vv kv),vt] h n Q:=by
 refine ν.go E.f67 U ?_;have W:=jm x (κ.one hv) S;have gH:=y.len;have KE:=y.sum;refine ε<|cR U U W <| λh1 n1 cA X Y=>γ U<|δ ?_;refine ε<|γ U<|δ ?_;refine ε<|σ U<|aH U U X (wT rfl rfl) <| λh2 F b2=>δ ?_;have Z:bm n h1 h2:=b2;have x2:Ext h n h2 n1:=Y.ab Z (φ _);have gh:=κ.ext hv x2;refine ε<|σ U<|ξ U (cE F rfl _)<|yr U U gh (by omega) (by omega) (by omega) <| λd h4 z o4 x4 G=>σ U<|aH U U ((x4.2 n (by omega)).trans F) (wS o4.cells o4.one) <| λs a5 b5=>δ ?_;have H:bm n h4 s:=b5;have B5:=x4.1;have I:Ext h n s z:=(x2.trans x4).ab H (φ _);have J:d=.ns\/n.num<d.blk.num:=G.imp id λg=>by omega
 have hv5:du s z d x.vars:=(o4.ext (J.imp id λg=>H _ (by omega))).sl (G.imp id And.right);refine θ<|ε<|γ U<|δ ?_;refine aj<|χ (aj6 (x:=x) (vv:=d) E y R ?_ _ 0 .ns .ns [] s z rfl (by omega) (by omega) (Gr.ns I) trivial (Gr.ns I) (Or.inl U) (Or.inl U) (Or.inl U) (λp hp=>by cases hp) a5 ⟨hv5,Or.inr (Or.inl U),Or.inr (Or.inl U),J⟩) (ρ.rf U);intro v e m j A E3 gJ B L D v1 k1 WZ MM MN o s3;refine bS s3 ?_;have F5:=(nc l).1;have M:=jm (wk x (dG l).2) (κ.one o.1) D.sl.one;have BW:j n=some (.c (bW (wk x (dG l).2) d e) 87 0):=MN;refine ε<|γ U<|ξ U (bc BW (iL rfl))<|eg (yH rfl M rfl) <| λh6 n6 jl a6 q=>jF U ((B.on q).own) U (κ.whole (len:=1) (by omega) a6 rfl) (by omega) (by omega) (by omega) (by omega) M ((B.on q).lt) <| λv8 r t o8 N sY O=>γ U<|δ<|Γ ⟨_,rfl,?_⟩;have n46:=q.1;have P:=(B.on q).app o8 N sY O;have m8:∀k:K,k.num<A.num->(v=.ns\/k.num≠v.blk.num)->r k=j k:=λk h1 j=>by rw[O k (by omega) j,q.2 k h1]
 have bO:∀{w:V},(w=.ns\/w.blk.num<A.num)->cC w v->w=.ns\/r w.blk=j w.blk:=λh1 h2=>cC.bO h1 h2 m8;have u:A.num<=t.num:=by omega
 have rows:cz (λx p=>du r t p.1 x.vars/\da r t .i64 p.2 x.kids) (jr x l) (m++[(d,e)]):=by
  refine cz.app (cz.mono (λx p a=>?_) L) ⟨⟨?_,?_⟩,trivial⟩
  ·exact⟨κ.eD a.1 (bO (κ.cP a.1) a.2.2.1) u,κ.eD a.2.1 (bO (κ.cP a.2.1) a.2.2.2) u⟩
  ·exact κ.eD o.1 (bO (κ.cP o.1) o.2.1) u
  ·exact κ.eD D.sl (bO (κ.cP D.sl) WZ) u
 have W1:d=.ns\/n.num<=d.blk.num:=o.2.2.2.imp id λg=>by omega
 have W2:e=.ns\/n.num<=e.blk.num:=k1.imp id λg=>by omega
 refine T v8 r t P.ext ⟨m++[(d,e)],⟨rows.len,?_,λi hi=>rows.get i hi (by rw[rows.len];exact hi)⟩,Or.inr (by rw[N];omega),λp hp=>?_⟩
 rotate_left
 ·rcases gQ.1 hp with g | g
  ·have:=MM p g;exact⟨this.2.1.imp id λg=>by omega,this.2.2.imp id λg=>by omega⟩
  ·rw[iZ]at g;subst g;exact⟨W1,W2⟩
 have:=P.sl;unfold jr;rw[uw L.len,gp];exact this
end
section
variable {C:Nat->Option aI}{h:Hf}{n:K}{Q:V->Hf->K->Prop}
def w61(k:Cd C){t:V}{ts:List Nd}{m:List (V×V)}(ht:jV h n t ts m)(hlen:ts.length<1000000)(h0:0<ts.length)
 (l:∀h' n' vv kv,Ext h n h' n'->m[ts.length - 1]?=some (vv,kv)->du h n vv (ts[ts.length - 1]'(by omega)).vars->da h n .i64 kv (ts[ts.length - 1]'(by omega)).kids->Q (.a (bW (ts[ts.length - 1]'(by omega)) vv kv)) h' n'):ν C (.f 61 [] []) [t] h n Q:=by
 refine ν.go k.f61 U ?_;have b:ts.length - 1<ts.length:=by omega
 have hm:=ht.choose;obtain⟨_,hs,d⟩:=ht;have o:=sF hm b;have hb:=(d _ b).1;have e:=(d _ b).2;refine ε<|bA <| λh1 n1 s p g=>δ ?_;have c:=hs.ext g;have j:=c.jP (i:=(ts.length - 1)*5) (sz:=5) (by omega) (by omega);rw[o]at j;have q:=jm ts[ts.length - 1] (κ.one hb) (κ.one e);refine ε<|γ U<|γ U<|al U c<|jR U U (show(ts.length:Int) - 1=((ts.length - 1:Nat):Int) by omega) ⟨by omega,by omega⟩<|aB U U c b<|ξ U j<|aH U U p (cj rfl rfl q) <| λh2 r b2=>δ ?_;refine Γ ⟨_,jE rfl (bc r (iL rfl)),?_⟩;exact l h2 n1 _ _ (g.ab b2 (φ _)) (by rw[df]) hb e
def aZ.nil(h:Hf)(n:K):aZ h n .ns []:=⟨[],rfl,κ.ns h n 5,λi hi=>by simp at hi⟩
end
section
variable {C:Nat->Option aI}{h:Hf}{n:K}{Q:V->Hf->K->Prop}
section
variable {v:V}{l:List (List (List Nd))}
end
end
section
variable {C:Nat->Option aI}{h:Hf}{n:K}{Q:V->Hf->K->Prop}
def tR(h0:Hf)(n0:K)(h:Hf)(n:K)(v:V)(l:List (List Nd))(hs:List V):Prop:=
 hs.length=l.length/\Gr h0 n0 h n 23 1 v l.length hs/\∀j (h1:j<hs.length) (h2:j<l.length),v≠.ns/\aZ h v.blk hs[j] l[j]
section
variable {h0 h4 h5:Hf}{n0 n4 n5:K}{v v5 w:V}{l:List (List Nd)}{hs:List V}{t:List Nd}
def tR.nil(e:Ext h0 n0 h n):tR h0 n0 h n .ns [] []:=⟨rfl,Gr.ns e,λj h1=>by simp at h1⟩
def tR.lt(a:tR h0 n0 h n v l hs):iS h n v l:=by obtain⟨h1,h2,b⟩:=a;refine⟨hs,h1,h2.sl,λi g1 c=>?_⟩;have:=b i g1 c;exact this.2.ext (n':=n) ⟨h2.lt.elim (λe=>absurd e this.1) eu,λ_ _=>rfl⟩
def tR.app(a:tR h0 n0 h n v l hs)(x:Ext h n h4 n4)(ht:aZ h5 n4 w t)(o5:ea h5 23 1 v5 (l.length+1) (hs++[w]))(c:v5.blk=n4)(f:n5.num=n4.num+1)(d:∀b:K,b.num<n4.num->(v=.ns\/b.num≠v.blk.num)->h5 b=h4 b):tR h0 n0 h5 n5 v5 (l++[t]) (hs++[w]):=by
 obtain⟨h1,h2,g⟩:=a;have i:=(h2.on x).app o5 c f d;have m:v5≠.ns:=by intro e;have:=o5.nil e;omega
 refine⟨by simp[h1],by rw[gp];exact i,λj g1 r=>⟨m,?_⟩⟩;by_cases hj:j<hs.length
 ·rw[List.getElem_append_left hj,List.getElem_append_left (by omega)];obtain⟨o,p⟩:=g j hj (by omega);have s:=h2.lt.resolve_left o;have:=x.1;refine p.ext ⟨by rw[c];omega,λk u=>?_⟩;rw[d k (by omega) (Or.inr (by omega)),x.2 k (by omega)]
 ·have q:j=hs.length:=by simp at g1;omega
  subst q;simp only[List.getElem_concat_length,h1,c];exact ht
end
end
section
variable {C:Nat->Option aI}{h:Hf}{n:K}{Q:V->Hf->K->Prop}
def Wh(h:Hf)(lo hi:K)(w:V)(x:List (List Nd)):Prop:=∀g:Hf,(∀b:K,lo.num<=b.num->b.num<hi.num->g b=h b)->iS g hi w x
def Ch(n0:K)(h:Hf)(v:V)(l:List (List Nd))(hs:List V):Prop:=∀j (h1:j<hs.length) (h2:j<l.length),TG h n0 v.blk hs[j] l[j]
section
variable {h0 h4 h5:Hf}{n0 n4 n5:K}{v v5 w:V}{l:List (List Nd)}{hs:List V}{t:List Nd}
def Ch.app(a:tR h0 n0 h n v l hs)(b:Ch n0 h v l hs)(x:Ext h n h4 n4)(ht:TG h5 n0 n4 w t)(c:v5.blk=n4)(d:∀b:K,b.num<n4.num->(v=.ns\/b.num≠v.blk.num)->h5 b=h4 b):Ch n0 h5 v5 (l++[t]) (hs++[w]):=by
 intro j g1 f;rw[c];by_cases hj:j<hs.length
 ·have h1:=a.1;rw[List.getElem_append_left hj,List.getElem_append_left (by omega)];have g:=a.2.1.lt.resolve_left (a.2.2 j hj (by omega)).1;have:=x.1;exact(b j hj (by omega)).skip (λk _ i=>by rw[d k (by omega) (Or.inr (by omega)),x.2 k (by omega)]) (by omega)
 ·have h1:=a.1;have e:j=hs.length:=by simp at g1;omega
  subst e;simp only[List.getElem_concat_length,h1];exact ht
def Ch.wh(a:tR h0 n0 h n v l hs)(b:Ch n0 h v l hs):Wh h n0 n v l:=by intro g c;obtain⟨h1,h2,f⟩:=a;refine⟨hs,h1,h2.sl.eD (h2.at_.imp id λe=>c _ e.1 e.2) (φ _),λj g1 d=>?_⟩;have i:=h2.lt.resolve_left (f j g1 d).1;exact((b j g1 d).skip (λk k1 k2=>c k k1 (by omega)) (eu i)).t
end
def TG.low{lo b:K}{v:V}{ts:List Nd}(a:TG h lo n v ts)(e:b.num<=lo.num):TG h b n v ts:=by obtain⟨m,h1,h2,c⟩:=a;exact⟨m,h1,h2.imp id (dU e),λp hp=>⟨(c p hp).1.imp id (dU e),(c p hp).2.imp id (dU e)⟩⟩
end
end Go.Ev.X
namespace Go.Ev.X
open Go Go.Ev
section
variable {C:Nat->Option aI}{E:Env}{h:Hf}{n:K}{q:Env->Hf->K->Prop}{l:List AO}{Ξ:Nat}{k:V->Hf->K->Prop}
end
end Go.Ev.X
namespace Go.Ev.X
open Go Go.Ev
attribute [local irreducible] WC WO WD SO ν
section
variable {C:Nat->Option aI}{h:Hf}{n:K}{Q:V->Hf->K->Prop}
end
section
variable {C:Nat->Option aI}{h:Hf}{n:K}{Q:V->Hf->K->Prop}
end
end Go.Ev.X
namespace Go.Ev.X
open Go Go.Ev
def Bn(x:Nd):Prop:=x.kids.length<1000000/\x.name.length<1000000/\x.vars.length<1000/\∀v∈x.vars,v.1.length<10000000
def Bd.of{ts:List Nd}(hl:ts.length<100000)(h:∀x∈ts,Bn x):Bd ts:=
 ⟨hl,λi hi=>(h _ (bK hi)).1,λi hi=>(h _ (bK hi)).2.1,λi hi=>(h _ (bK hi)).2.2.1,λi hi=>(h _ (bK hi)).2.2.2⟩
def Bd.bn{ts:List Nd}(h:Bd ts):∀x∈ts,Bn x:=by intro x a;obtain⟨i,hi,rfl⟩:=iX a;exact⟨h.gw i hi,h.nm i hi,h.vl i hi,h.vn i hi⟩
def KR(t:List Nd):Prop:=0<t.length/\∀x∈t,∀k∈x.kids,0<=k/\k<(t.length:Int)
def aj8:∀(l:List (List Nd)) (s:List Nd×List Int),(∀y∈s.1,Bn y)->(∀t∈l,∀y∈t,Bn y)->∀y∈(l.foldl kE s).1,Bn y:=by
 intro l
 induction l with
 | nil=>intro s h _;exact h
 | cons t l ih=>
  intro s h g;refine ih (kE s t) (λy a=>?_) λu b=>g u (by simp[b]);rcases gQ.1 a with e | e
  ·exact h y e
  ·obtain⟨z,c,rfl⟩:=List.mem_map.1 e;have:=g t (by simp) z c;exact⟨by show(z.kids.map _).length<_;rw[kJ];exact this.1,this.2⟩
def SX:∀(l:List (List Nd)) (s:List Nd×List Int),(∀y∈s.1,∀k∈y.kids,0<=k/\k<(s.1.length:Int))->(∀k∈s.2,0<=k/\k<(s.1.length:Int))->(∀t∈l,KR t)->(∀y∈(l.foldl kE s).1,∀k∈y.kids,0<=k/\k<((l.foldl kE s).1.length:Int))/\(∀k∈(l.foldl kE s).2,0<=k/\k<((l.foldl kE s).1.length:Int)):=by
 intro l
 induction l with
 | nil=>intro s h1 h2 _;exact⟨h1,h2⟩
 | cons t l ih=>
  intro s h1 h2 g;have hl:(kE s t).1.length=s.1.length+t.length:=by simp[kE]
  have gt:=g t (by simp);refine ih (kE s t) (λy b k a=>?_) (λk a=>?_) λu c=>g u (by simp[c])
  ·rw[hl];rcases gQ.1 b with e | e
   ·have:=h1 y e k a;omega
   ·obtain⟨z,d,rfl⟩:=List.mem_map.1 e;obtain⟨k',f,rfl⟩:=List.mem_map.1 (show k∈z.kids.map _ from a);have:=gt.2 z d k' f;omega
  ·rw[hl];rcases gQ.1 a with e | e
   ·have:=h2 k e;omega
   ·rw[iZ]at e;have:=gt.1;omega
def uQ(x:Nd)(l:List (List Nd)):(jr x l).length=lens l+1:=by unfold jr;simp[(nc l).1]
def aj9{x:Nd}{l:List (List Nd)}(hs:lens l<99999)(hl:l.length<1000000)(b:x.name.length<1000000)(hv:x.vars.length<1000)(c:∀v∈x.vars,v.1.length<10000000)(hb:∀t∈l,Bd t):Bd (jr x l):=by
 refine Bd.of (by rw[uQ];omega) λy a=>?_;rcases gQ.1 a with e | e
 ·exact aj8 l ([],[]) (λy a=>by cases a) (λt ht=>(hb t ht).bn) y e
 ·rw[iZ]at e;subst e;exact⟨by show(dG l).2.length<_;rw[(nc l).2];exact hl,b,hv,c⟩
def aka{x:Nd}{l:List (List Nd)}(h:∀t∈l,KR t):KR (jr x l):=by
 have h1:=SX l ([],[]) (λy b=>by cases b) (λk a=>by cases a) h;have c:=(nc l).1;refine⟨by rw[uQ];omega,λy b k a=>?_⟩;rw[uQ];have d:(l.foldl kE ([],[])).1.length=lens l:=c;rcases gQ.1 b with e | e
 ·have:=h1.1 y e k a;omega
 ·rw[iZ]at e;subst e;have:=h1.2 k a;omega
end Go.Ev.X
namespace Go.Ev.X
open Go Go.Ev
attribute [local irreducible] WC WO WD SO ν
section
variable {C:Nat->Option aI}{h:Hf}{n:K}{Q:V->Hf->K->Prop}
structure QB(vars:List (S×S))(l:List (List (List Nd)))(body:List Nd):Prop where
 len:l.length<=4
 each:∀x∈l,x.length<=4
 bd:∀x∈l,∀t∈x,Bd t
 body:Bd body
 vl:vars.length<1000
 vn:∀v∈vars,v.1.length<10000000
section
variable {op:Int}{vars:List (S×S)}{l:List (List (List Nd))}{body:List Nd}
end
end
section
variable {C:Nat->Option aI}{h:Hf}{n:K}{Q:V->Hf->K->Prop}
variable {op:Int}{vars:List (S×S)}{l:List (List (List Nd))}{body:List Nd}
end
section
variable {C:Nat->Option aI}{h0:Hf}{n0:K}
variable {op:Int}{vars:List (S×S)}{l:List (List (List Nd))}{body:List Nd}{vv vl t:V}
end
section
variable {C:Nat->Option aI}{h0:Hf}{n0:K}
variable {op:Int}{vars:List (S×S)}{l:List (List (List Nd))}{body:List Nd}{vv vl t:V}
end
section
variable {C:Nat->Option aI}{h:Hf}{n:K}{Q:V->Hf->K->Prop}
variable {op:Int}{vars:List (S×S)}{l:List (List (List Nd))}{body:List Nd}
end
section
section
variable {h0 h h1 h4 h5:Hf}{n0 n n1 n4 n5:K}{u v u5 v5 w:V}{l:List (List (List Nd))}{t:List (List Nd)}{hs cs:List V}
end
end
section
variable {C:Nat->Option aI}
section
variable {h0 h:Hf}{n0 n:K}{l:List (List (List Nd))}{vl x0 x1 Gq u v w:V}{us hs:List V}{i:Nat}
end
end
section
variable {C:Nat->Option aI}{h:Hf}{n:K}{Q:V->Hf->K->Prop}
variable {op:Int}{vars:List (S×S)}{l:List (List (List Nd))}{body:List Nd}
end
end Go.Ev.X
namespace Go.Ev.X
open Go Go.Ev
section
def SY{α:Type}:∀{vs l:List α},vs.length<=l.length->over vs l=some (vs++l.drop vs.length)
 | [],l,_=>by simp[over]
 | v::vs,[],h=>by simp at h
 | v::vs,a::l,h=>by simp only[over,SY (show vs.length<=l.length by simpa using h)];simp
def KK{α:Type}{vs:List α}:∀{o:Nat} {l:List α},o+vs.length<=l.length->cL vs l o=some (l.take o++vs++l.drop (o+vs.length))
 | 0,l,h=>by
  have:cL vs l 0=over vs l:=by cases l<;>rfl
  rw[this,SY (by omega)];simp
 | o+1,[],h=>by simp at h
 | o+1,a::l,h=>by simp only[cL,KK (vs:=vs) (o:=o) (l:=l) (by simp at h;omega)];simp[show o+1+vs.length=o+vs.length+1 by omega]
def SZ{α:Type}:∀{m:Nat} {l:List α},m<=l.length->takeN m l=some (l.take m)
 | 0,l,_=>by simp[takeN]
 | m+1,[],h=>by simp at h
 | m+1,a::l,h=>by simp only[takeN,SZ (show m<=l.length by simpa using h)];simp
section
variable {C:Nat->Option aI}{E:Env}{h:Hf}{n:K}{q:Env->Hf->K->Prop}{l:List AO}{Ξ:Nat}{k:V->Hf->K->Prop}{i:Nat}{m:Made}{P:List PR}{B:List PB}
def akb{z o len c p:Nat}{x:au}{lo:Option au}{b:K}(d:ge E x=some (.sl b o len c))(e:bd E 0 lo=some p)(h1:p<=len)(h2:p<c)(f:len<=c)(g:k (.sl b (o+p*z) (len - p) (c - p)) h n):SO C (.sli (.sl z) x lo none none) E h n k:=
 eY (λ_ _ _ _=>rfl) (λT H a r=>by
  have j:=a.bd e;have b1:Nat.ble p len=true:=fK h1;have b2:Nat.ble len c=true:=fK f;have b3:Nat.ble c c=true:=fK (φ _);have b4:Nat.beq c p=false:=by rw[cB];simp;omega
  simp only[simple,a.ge d,ly,j,sn,b1,b2,b3,b4,hK,cond_true,cond_false,cW];rfl) g
def S0{d x:au}{b:K}{o L c m e:Nat}{bu cs:List V}{v:V}(t:ge E d=some (.sl b o L c))(hb:h b=some (.c bu e 0))(J:o+L<=bu.length)(u:ge E x=some v)(a:κ h n 1 v m cs)(w:aD cs=true)(h0:0<min L m)
 (y:∀h',h' b=some (.c (bu.take o++cs.take (min L m)++bu.drop (o+min L m)) e 0)->bm b h h'->k (.i .i64 (min L m:Nat)) h' n):SO C (.xn 1 d x) E h n k:=
 pj (λ_ _ _ _=>rfl) λT H r f=>by
  have s:H.get b=some (.c bu e 0):=by rw[f];exact hb
  have M:cs.length=m*1:=a.1;have z:elems H 1 (.sl b o L c)=some (L,(bu.drop o).take (L*1)):=by have:ch bu o (Nat.mul L 1)=some ((bu.drop o).take (L*1)):=sk (by show o+L*1<=_;omega);simp only[elems,rowAt,s,O.row,this]
  have A:=a.elems f;have D:(bif Nat.ble m L then m else L)=min L m:=by
   cases p:Nat.ble m L with
   | true=>have:=kH p;show m=_;omega
   | false=>
    have:¬ m<=L:=λg=>by rw[fK g]at p;cases p
    show L=_;omega
  have F:Nat.beq (min L m) 0=false:=by rw[cB];simp;omega
  have ht:takeN (Nat.mul (min L m) 1) cs=some (cs.take (min L m)):=by rw[show Nat.mul (min L m) 1=min L m from jz _];exact SZ (by omega)
  have G:aD (cs.take (min L m))=true:=by
   have key:∀(l:List V) (j:Nat),aD l=true->aD (l.take j)=true:=by
    intro l
    induction l with
    | nil=>intro j _;simp[aD]
    | cons a l ih=>
     intro j hl;simp only[aD,aK]at hl;cases j with
     | zero=>rfl
     | succ j=>simp only[mD,aD,hl.1,ih j hl.2,hK]
   exact key _ _ w
  have kA:(cs.take (min L m)).length=min L m:=by simp;omega
  have hp:=KK (vs:=cs.take (min L m)) (o:=o) (l:=bu) (by rw[kA];omega);rw[kA]at hp;refine⟨.i .i64 (min L m:Nat),H.put (some (.c (bu.take o++cs.take (min L m)++bu.drop (o+min L m)) e 0)) b,n,?_,by rw[hY,f];exact y _ (eQ _ _ _) (jh _ _ _)⟩;have I:fB H b o (cs.take (min L m))=some (H.put (some (.c (bu.take o++cs.take (min L m)++bu.drop (o+min L m)) e 0)) b):=by simp only[fB,s,Nat.ble,G,hK,cond_true,hp]
  simp only[simple,r.ge t,r.ge u,z,A,D,F,cond_false,ht,I];rfl
def akd{d:K}{f x:au}{b:K}{o L c m e:Nat}{bu cs:List V}{v:V}(g:ge E f=some (.sl b o L c))(hb:h b=some (.c bu e 0))(j:o+L<=bu.length)(p:ge E x=some v)(a:κ h n 1 v m cs)(r:aD cs=true)(h0:0<min L m)
 (s:∀h',h' b=some (.c (bu.take o++cs.take (min L m)++bu.drop (o+min L m)) e 0)->bm b h h'->WO C l ((d,.i .i64 (min L m:Nat))::E) h' n q):WO C (⟨some d,.xn 1 f x,none,Ξ⟩::l) E h n q:=cr (S0 g hb j p a r h0 s)
def ake{d:K}{f x:au}{b:K}{o L c j e:Nat}{bu cs:List V}{v:V}(g:ge E f=some (.sl b o L c))(hb:(fE h Ξ m) b=some (.c bu e 0))(p:o+L<=bu.length)(r:ge E x=some v)(a:κ (fE h Ξ m) n 1 v j cs)(s:aD cs=true)(h0:0<min L j)
 (t:∀h',h' b=some (.c (bu.take o++cs.take (min L j)++bu.drop (o+min L j)) e 0)->bm b (fE h Ξ m) h'->WD C l (i+1) ((d,.i .i64 (min L j:Nat))::E) (jQ h h' Ξ m) n m P (⟨i,Ξ,h,jQ h h' Ξ m⟩::B) q):WD C (⟨some d,.xn 1 f x,none,Ξ⟩::l) i E h n m P B q:=AX U (S0 g hb p r a s h0 t)
def akf{d:K}{z o len c p:Nat}{x:au}{lo:Option au}{b:K}(a:ge E x=some (.sl b o len c))(e:bd E 0 lo=some p)(h1:p<=len)(h2:p<c)(f:len<=c)(g:WD C l (i+1) ((d,.sl b (o+p*z) (len - p) (c - p))::E) h n m P B q):WD C (⟨some d,.sli (.sl z) x lo none none,none,Ξ⟩::l) i E h n m P B q:=fN U (akb a e h1 h2 f g)
end
end
end Go.Ev.X
namespace Go.Ev.X
open Go Go.Ev
attribute [local irreducible] WC WO WD SO ν
section
variable {C:Nat->Option aI}{h:Hf}{n:K}{Q:V->Hf->K->Prop}
def Ci{m:Nat}(hm:m<4294967296){a:dE}:j5 .shr a (.i .u64 (m:Nat)) (.i .u64 32)=some (.i .u64 ((0:Nat):Int)):=by
 show some (V.i .u64 (Int.fdiv (m:Int) (Int.ofNat (Nat.pow 2 32))))=_;have:Int.fdiv (m:Int) (Int.ofNat (Nat.pow 2 32))=((0:Nat):Int):=by rw[Int.fdiv_eq_ediv_of_nonneg _ (by decide)];exact Int.ediv_eq_zero_of_lt (by omega) (by show(m:Int)<4294967296;omega)
 rw[this]
def KL{m:Nat}(hm:m<4294967296){a:dE}:j5 .and a (.i .u64 (m:Nat)) (.i .u64 4294967295)=some (.i .u64 (m:Nat)):=by
 have e:(BitVec.ofInt 64 (m:Int) &&& BitVec.ofInt 64 4294967295).toNat=m:=by
  rw[BitVec.toNat_and,BitVec.toNat_ofInt,BitVec.toNat_ofInt];have h1:((m:Int) % ((2 ^ 64:Nat):Int)).toNat=m:=by rw[Int.emod_eq_of_lt (by omega) (by show(m:Int)<18446744073709551616;omega)];simp
  have h2:((4294967295:Int) % ((2 ^ 64:Nat):Int)).toNat=2 ^ 32 - 1:=by decide
  rw[h1,h2,Nat.and_two_pow_sub_one_eq_mod];exact tZ hm
 show some (V.i .u64 (wr .u64 (Int.ofNat (BitVec.ofInt 64 (m:Int) &&& BitVec.ofInt 64 4294967295).toNat)))=_;rw[e,show Int.ofNat m=((m:Nat):Int) from rfl,yf (show mg .u64 ((m:Nat):Int) from⟨by omega,by omega⟩)]
def akg(a:fh C){m:Nat}(hm:m<4294967296)(b:Q (.u [.i .u64 ((0:Nat):Int),.i .u64 (m:Nat)]) h n):ν C (.f 301 [] []) [.i .u64 ((1:Nat):Int),.i .u64 (m:Nat)] h n Q:=by refine ν.go a.f301 U ?_;refine ε<|γ U<|γ U<|δ ?_;refine ε<|γ U<|nP U U (KL (m:=1) (by decide))<|γ U<|δ ?_;refine ε<|γ U<|nP U U (Ci (m:=1) (by decide))<|γ U<|δ ?_;refine ε<|γ U<|nP U U (KL hm)<|γ U<|δ ?_;refine ε<|γ U<|nP U U (Ci hm)<|γ U<|δ ?_;refine ε<|γ U<|γ U<|uz U U (show((1:Nat):Int)*((m:Nat):Int)=((m:Nat):Int) by omega) ⟨by omega,by omega⟩<|γ U<|δ ?_;refine ε<|γ U<|γ U<|uz U U (show((0:Nat):Int)*((m:Nat):Int)=((0:Nat):Int) by omega) ⟨by omega,by omega⟩<|γ U<|nP U U (Ci hm)<|gT U U (show((0:Nat):Int)+((0:Nat):Int)=((0:Nat):Int) by omega) ⟨by omega,by omega⟩<|γ U<|δ ?_;refine ε<|γ U<|nP U U (KL (m:=0) (by decide))<|γ U<|δ ?_;refine ε<|γ U<|nP U U (Ci (m:=0) (by decide))<|γ U<|δ ?_;refine ε<|γ U<|γ U<|γ U<|uz U U (show((1:Nat):Int)*((0:Nat):Int)=((0:Nat):Int) by omega) ⟨by omega,by omega⟩<|gT U U (show((0:Nat):Int)+((0:Nat):Int)=((0:Nat):Int) by omega) ⟨by omega,by omega⟩<|γ U<|δ ?_;refine ε<|γ U<|γ U<|uz U U (show((0:Nat):Int)*((0:Nat):Int)=((0:Nat):Int) by omega) ⟨by omega,by omega⟩<|γ U<|gT U U (show((0:Nat):Int)+((0:Nat):Int)=((0:Nat):Int) by omega) ⟨by omega,by omega⟩<|γ U<|nP U U (Ci (m:=0) (by decide))<|gT U U (show((0:Nat):Int)+((0:Nat):Int)=((0:Nat):Int) by omega) ⟨by omega,by omega⟩<|γ U<|δ ?_;refine ε<|γ U<|γ U<|uz U U (show((1:Nat):Int)*((m:Nat):Int)=((m:Nat):Int) by omega) ⟨by omega,by omega⟩<|γ U<|δ (Γ ⟨_,rfl,b⟩)
def akh(a:fh C){m:Nat}(hm:m<4294967296)(b:Q (.u [.i .u64 ((0:Nat):Int),.i .u64 (m:Nat)]) h n):ν C (.f 255 [] []) [.i .u64 ((1:Nat):Int),.i .u64 (m:Nat)] h n Q:=by refine ν.go a.f255 U ?_;refine ε<|γ U<|γ U<|δ ?_;refine θ<|ae U U<|Ω ?_;refine ε<|γ U<|γ U<|ψ U U<|akg a hm<|γ U<|bF U U<|bF U U<|γ U<|γ U<|δ ?_;refine ε<|γ U<|γ U<|γ U<|γ U<|δ (Γ ⟨_,rfl,b⟩)
def kF(m q:Nat):List V:=List.replicate q (.i .i64 (-1))++List.replicate (m - q) (.i .i64 0)
def Fi{m q:Nat}(h:q<=m):(kF m q).length=m:=by simp[kF];omega
def aki(m q:Nat):aD (kF m q)=true:=by
 have key:∀(l:List V),(∀v∈l,v.one=true)->aD l=true:=by
  intro l
  induction l with
  | nil=>intro _;rfl
  | cons a l ih=>intro h;simp only[aD,h a (by simp),ih λv hv=>h v (by simp[hv]),hK]
 refine key _ λv hv=>?_;simp only[kF,gQ,List.mem_replicate]at hv;rcases hv with ⟨_,rfl⟩ | ⟨_,rfl⟩<;>rfl
def take_one:∀{l:List V} {j:Nat},aD l=true->aD (l.take j)=true
 | [],j,_=>by simp[aD]
 | a::l,0,_=>rfl
 | a::l,j+1,h=>by simp only[aD,aK]at h;simp only[mD,aD,h.1,take_one h.2,hK]
def akj{m q d:Nat}(h:q<=m)(h1:d<=q)(h2:d<=m - q):(kF m q).take q++((kF m q).take q).take d++(kF m q).drop (q+d)=kF m (q+d):=by
 have a:(kF m q).take q=List.replicate q (.i .i64 (-1)):=by unfold kF;rw[List.take_left' (by simp)]
 have b:(kF m q).drop (q+d)=List.replicate (m - q - d) (.i .i64 0):=by unfold kF;rw[List.drop_append,List.drop_of_length_le (by simp)];simp
 rw[a,b,List.take_replicate,rW h1,List.replicate_append_replicate];unfold kF;rw[show m - (q+d)=m - q - d by omega]
def KM(k:IntKind)(x:Int):∀m:Nat,cO k (List.replicate m x)=List.replicate m (.i k x)
 | 0=>rfl
 | m+1=>by simp only[ub,cO,KM k x m]
def S1(v:V):∀m:Nat,dL [v] m=List.replicate m v
 | 0=>rfl
 | m+1=>by simp only[dL,S1 v m,ub];rfl
def akk(l:fh C){x:V}{m:Nat}(hm:m<1000000)(h0:0<m)(g:da h n .i64 x [-1])(o:∀b h' n',Ext h n h' n'->n.num<=b.num->Cl h' n' b (cO .i64 (List.replicate m (-1))) 3->Q (.sl b 0 m m) h' n'):ν C (.f 190 [] []) [x,iN m] h n Q:=by
 have g:κ h n 1 x 1 (cO .i64 [-1]):=g;refine ν.go l.f190 U ?_;refine ε<|γ U<|δ ?_;refine θ<|ε<|γ U<|ay U U<|δ ?_;refine ae U (by simp)<|Ω ?_;refine ε<|γ U<|al U g<|kS U ⟨by omega,by omega⟩<|γ U<|kS U ⟨by omega,by omega⟩<|ψ U U<|akh l (m:=m) (by omega)<|γ U<|bF U U<|bF U U<|γ U<|γ U<|δ ?_;refine θ<|ε<|γ U<|bC U U<|γ U<|ζ U (by simp)<|γ U<|ζ U (by simp)<|bC U U<|aL U (by simp) U<|δ ?_;refine ae U (by simp;omega)<|Ω ?_;refine ε<|γ U<|kS U ⟨by omega,by omega⟩<|pA U U (by omega) (by omega) <| λh1 n1 B u p=>γ U<|δ ?_;have v:h1 n=some (.c (kF m 0) 3 0):=by rw[u,S1];simp[kF]
 refine ε<|γ U<|γ U<|akd U v (by rw[Fi (by omega)];omega) U (g.ext p) U (by omega) <| λh2 j b2=>γ U<|δ ?_;have s:min m 1=1:=by omega
 have w:h2 n=some (.c (kF m 1) 3 0):=by have j:h2 n=some (.c ((kF m 0).take 0++(cO .i64 [-1]).take (min m 1)++(kF m 0).drop (0+min m 1)) 3 0):=j;rw[j,s];simp[kF,cO]
 rw[s];have loop:∀(r q:Nat) (h':Hf),m - q<=r->1<=q->q<=m->h' n=some (.c (kF m q) 3 0)->Ext h n h' n1->WC C acN [(k7,.sl n 0 m m),(k8,iN q)] h' n1 (blk 0 (sq C acO (fq [.t k4] Q))):=by
  intro r
  induction r with
  | zero=>
   intro q h' y h1 h2 a e;have:q=m:=by omega
   subst this;have d:κ h' n1 1 (.sl n 0 q q) q (kF q q):=κ.whole (by omega) a (by rw[Fi h2];omega);refine ax ?_;refine θ<|ε<|γ U<|γ U<|al U d<|ay U U<|δ ?_;refine ae U (by simp)<|aJ ?_;refine ε<|γ U<|γ U<|δ (Γ ⟨_,rfl,o n h' n1 e (φ _) ⟨by omega,?_⟩⟩);rw[a,KM];simp[kF]
  | succ r ih=>
   intro q h' y h1 h2 a e;have d:κ h' n1 1 (.sl n 0 m m) m (kF m q):=κ.whole (by omega) a (by rw[Fi h2];omega);by_cases z:q=m
   ·subst z;refine ax ?_;refine θ<|ε<|γ U<|γ U<|al U d<|ay U U<|δ ?_;refine ae U (by simp)<|aJ ?_;refine ε<|γ U<|γ U<|δ (Γ ⟨_,rfl,o n h' n1 e (φ _) ⟨by omega,?_⟩⟩);rw[a,KM];simp[kF]
   refine ax ?_;refine θ<|ε<|γ U<|γ U<|al U d<|ay U U<|δ ?_;refine ah U (by simp;omega)<|Ω ?_;refine aj<|nO<|ak U<|ak U<|ak U<|akf U U h2 (by omega) (by omega)<|ak U<|ak U<|A7 U d U U (by omega) (by omega) <| λD A E=>ake U a (by rw[Fi h2];omega) U A (by simp only[Nat.zero_mul,gb];exact take_one (aki _ _)) (by omega) <| λk i b3=>sG U U ⟨by omega,by omega⟩<|ak U<|bU (by simp[AG,jD,mn,Nat.testBit]) ?_;have b3:bm n h' k:=b3;have i:k n=some (.c ((kF m q).take (0+q*1)++(((kF m q).drop (0*1)).take ((q - 0)*1)).take (min (m - q) (q - 0))++(kF m q).drop (0+q*1+min (m - q) (q - 0))) 3 0):=i;rw[Nat.zero_mul,mF,jz,eW,gb,akj h2 (by omega) (by omega)]at i;exact χ (ih (q+min (m - q) q) k (by omega) (by omega) (by omega) i (e.ab b3 (φ _))) (ρ.rf U)
 refine θ<|aj<|χ (loop m 1 h2 (by omega) (φ _) (by omega) w (p.ab b2 (φ _))) (ρ.rf U)
end
section
variable {C:Nat->Option aI}{h:Hf}{n:K}{Q:V->Hf->K->Prop}
def iT(l:List Int)(ks:List Int)(v:Int):List Int:=ks.foldl (λl k=>l.set k.toNat v) l
def oQ(ts:List Nd):Nat->List Int
 | 0=>List.replicate ts.length (-1)
 | i+1=>iT (oQ ts i) (fT ts i) i
def pJ(ts:List Nd):List Int:=oQ ts ts.length
def S2(v:Int):∀(ks l:List Int),(iT l ks v).length=l.length
 | [],l=>rfl
 | k::ks,l=>by show(iT (l.set k.toNat v) ks v).length=_;rw[S2 v ks];simp
def uR(ts:List Nd):∀i,(oQ ts i).length=ts.length
 | 0=>by simp[oQ]
 | i+1=>by rw[oQ,S2,uR ts i]
section
variable {ts:List Nd}{i:Nat}{vv kv:V}{bl c3 c4:K}{Q1:Ex->Env->Hf->K->Prop}
def akl(hlen:ts.length<1000000)(hi:i<ts.length)(x:ts[i].kids.length<1000000)(q:∀k∈ts[i].kids,k<i/\0<=k)(y:bl.num≠c3.num)(z:bl.num≠c4.num):
 ∀(r j:Nat) (L:List Int) (h:Hf),ts[i].kids.length - j=r->j<=ts[i].kids.length->L.length=ts.length->Cl h n c3 [.sl bl 0 ts.length ts.length] 85->Cl h n c4 (kC ts[i] vv kv i) 141->Cl h n bl (cO .i64 L) 3->da h n .i64 kv ts[i].kids->(kv=.ns\/kv.blk.num≠bl.num)->(∀E' h',bm bl h h'->Cl h' n bl (cO .i64 (iT L (ts[i].kids.drop j) i)) 3->Q1 .normal E' h' n)->WC C acM [(k3,.p c3 0),(k4,.p c4 0),(k16,kv),(CF,.i .i64 (ts[i].kids.length:Nat)),(FV,iN j)] h n (blk 2 Q1):=by
 intro r
 induction r with
 | zero=>
  intro j L h hj s d e f b a g c;have:j=ts[i].kids.length:=by omega
  subst this;refine ax ?_;refine ε<|ay U U<|δ ?_;refine θ<|ae U (by simp)<|aJ ?_;exact c _ _ (λ_ _=>rfl) (by rw[jw];exact b)
 | succ r ih=>
  intro j L h hj s d e f b a g c;have l:j<ts[i].kids.length:=by omega
  have t:=q ts[i].kids[j] (bK _);have o:=a.get l 1;rw[eo l]at c;obtain⟨k',u⟩:∃k':Nat,ts[i].kids[j]=(k':Int):=⟨ts[i].kids[j].toNat,by omega⟩;rw[u]at t o c;have hI:=b.wI d;refine ax ?_;refine ε<|ay U U<|δ ?_;refine θ<|ah U (by simp;omega)<|Ω ?_;refine θ<|aj<|ε<|aB U U a l<|ξ U o<|γ U<|δ ?_;refine aA<|ξ U (e.ld U _)<|γ U<|σ U<|ξ U (f.ld U _)<|aB U U hI (by omega)<|aH U U b.2 (sX (i:=k') (by omega) _ (by simp[V.off])) <| λh1 m b1=>δ ?_;have b1:bm bl h h1:=b1;replace m:h1 bl=_:=m;refine aA<|aX U U ⟨by omega,by omega⟩<|γ U<|δ ?_;refine χ (ih (j+1) (L.set k' i) h1 (by omega) (by omega) (by simpa using d) (e.ab b1 (by omega)) (f.ab b1 (by omega)) ⟨b.1,m⟩ (κ.ab a b1 g) g ?_) (ρ.rf U);intro E' h' v w;exact c E' h' (λk a=>by rw[v k a,b1 k a]) (by simpa[iT]using w)
end
def S3(u:fh C){t:V}{ts:List Nd}(ht:aZ h n t ts)(hlen:ts.length<1000000)(h0:0<ts.length)(M:∀i (hi:i<ts.length),ts[i].kids.length<1000000)(N:∀j,j<ts.length->ord ts j=true)
 (O:∀v' h' n',Ext h n h' n'->da h' n' .i64 v' (pJ ts)->Q v' h' n'):ν C (.f 104 [] []) [t] h n Q:=by
 obtain⟨m,tm⟩:=ht.get;refine ν.go u.f104 U ?_;obtain⟨cs,hs⟩:=ht.sl;refine ε<|γ U<|δ ?_;refine ε<|eg U <| λh1 n1 cA P v=>γ U<|al U (hs.ext v)<|ψ U U<|akk u hlen h0 (κ.whole (len:=1) (by omega) P rfl) <| λbl h2 w D eS c2=>bA <| λh3 x gJ R E=>aH U U R U <| λy S b4=>δ ?_;have y1:=v.1;have y2:=D.1;have arH:=c2.1;have x4:Ext h n y x:=((v.trans D).trans E).ab b4 (by omega);have T:Cl y x bl (cO .i64 (oQ ts 0)) 3:=(Cl.ext c2 E).ab b4 (by omega);have W:Cl y x w [.sl bl 0 ts.length ts.length] 85:=⟨by omega,S⟩;refine θ<|ε<|γ U<|ψ U U<|Jk u.toCd (tm.ext x4) hlen ?_;intro b e h5 q r X C6 arI it;refine δ<|aj ?_;let I:Nat->Hf->K->Prop:=λi h' n'=>Ext h n h' n'/\(b.num<n'.num/\h' b=some (.c [t] e 0))/\Cl h' n' bl (cO .i64 (oQ ts i)) 3/\Cl h' n' w [.sl bl 0 ts.length ts.length] 85;have z5:=r.1;refine sJ U it I (λ_ _ _=>False) ?_ ?_ ?_ ?_ ?_ ?_ ?_ ?_
 ·rintro j h1 n1 h' n' ⟨g1,⟨a,l⟩,g,k⟩ ex;exact⟨g1.trans ex,⟨ep a ex.1,by rw[ex.2 _ a];exact l⟩,g.ext ex,k.ext ex⟩
 ·rintro j h1 n1 h' ⟨g1,⟨a,l⟩,g,k⟩ d;have Y:=g1.ab d (by omega);exact⟨Y,⟨a,by rw[d _ (by omega)];exact l⟩,g.ab d (by omega),k.ab d (by omega)⟩
 ·rintro j h1 n1 ⟨g1,a,_⟩;exact⟨a.1,a.2,tm.ext g1⟩
 ·intro j hj;rw[qp];rfl
 ·intro h' d;have hs:q.succ.num=q.num+1:=K.eF q;have g1:Ext h n h' q.succ:=((x4.trans r).ab d (by omega)).succ;exact⟨g1,⟨by omega,by rw[d _ (by omega)];exact X⟩,((T.ext r).ab d (by omega)).up (by omega),((W.ext r).ab d (by omega)).up (by omega)⟩
 ·rintro j hj h1 m1 E1 F ⟨g1,⟨a,l⟩,g,k⟩ z;have o:j<ts.length:=by rw[pD]at hj;exact hj
  rw[qp]at z;simp only[jB,lK]at z;subst z;obtain⟨vv,kv,Z,kB,A⟩:=tm.row o;rw[Z,Bs];have bf:=sT ts[j] (κ.one kB) (κ.one A) (i:=j);refine aA<|bA <| λh6 G EX a6 p=>aH U U a6 (cj rfl rfl bf) <| λh7 a7 b7=>δ ⟨rfl,by rw[b7 _ (by omega),p.2 _ F],λB b8=>?_⟩;have c4:Cl B G m1 (kC ts[j] vv kv j) 141:=(Cl.ab ⟨by omega,a7⟩ b8 (by omega));have H:Ext h n B G:=((g1.trans p).ab b7 (by omega)).ab b8 (by omega);have J:=A.ext H;have akn:=M j o;refine aj ?_;refine ε<|σ U<|σ U<|ξ U (c4.ld U _)<|al U J<|γ U<|δ ?_;refine aj ?_;refine χ (akl (i:=j) (vv:=vv) (c3:=w) (c4:=m1) (bl:=bl) hlen o akn (by have:=oI (N j o);rw[jj o]at this;exact this) (by omega) (by omega) _ 0 (oQ ts j) B rfl (by omega) (uR ts j) (((k.ext p).ab b7 (by omega)).ab b8 (by omega)) c4 (((g.ext p).ab b7 (by omega)).ab b8 (by omega)) J ?_ ?_) (ρ.rf U)
  ·cases κ.cP A with
   | inl h=>exact Or.inl h
   | inr h=>exact Or.inr (by omega)
  ·intro E' h9 s L;refine⟨by omega,s _ (by omega),H.ab s (by omega),⟨by omega,by rw[s _ (by omega),b8 _ (by omega),b7 _ (by omega),p.2 _ a];exact l⟩,?_,(((k.ext p).ab b7 (by omega)).ab b8 (by omega)).ab s (by omega)⟩;rw[gb,←jj o]at L;exact L
 ·rintro h' n' jZ ⟨g1,⟨a,l⟩,g,k⟩;rw[pD]at g;refine ε<|ξ U (k.ld U _)<|γ U<|δ (Γ ⟨_,rfl,O _ _ _ g1 (g.wI (uR ts _))⟩)
 ·rintro ex h' n' h2 F hf;exact hf.elim
end
section
variable {C:Nat->Option aI}{h:Hf}{n:K}{Q:V->Hf->K->Prop}
def KN(v:Int):∀(ks l:List Int) (j:Nat),(iT l ks v)[j]?=l[j]?\/((iT l ks v)[j]?=some v/\∃k∈ks,k.toNat=j)
 | [],l,j=>Or.inl U
 | k::ks,l,j=>by
  show(iT (l.set k.toNat v) ks v)[j]?=_\/(iT (l.set k.toNat v) ks v)[j]?=_/\_;rcases KN v ks (l.set k.toNat v) j with e | ⟨e,x,b,g⟩
  ·rw[e,List.getElem?_set];by_cases a:k.toNat=j
   ·by_cases hl:k.toNat<l.length
    ·rw[ao a,ao (by omega)];exact Or.inr ⟨rfl,k,by simp,a⟩
    ·rw[ao a,Θ (by omega)];exact Or.inl (qY (by omega)).symm
   ·rw[Θ a];exact Or.inl U
  ·exact Or.inr ⟨e,x,by simp[b],g⟩
def S4(v:Int)(z:List Int):∀(ks l:List Int),(∀k∈ks,k.toNat<l.length)->iT (l++z) ks v=iT l ks v++z
 | [],l,_=>rfl
 | k::ks,l,h=>by show iT ((l++z).set k.toNat v) ks v=iT (l.set k.toNat v) ks v++z;rw[List.set_append_left _ _ (h k (by simp)),S4 v z ks _ λx a=>by rw[gZ];exact h x (by simp[a])]
def S5(v:Int)(p:Nat):∀(ks l:List Int),iT (l.take p) ks v=(iT l ks v).take p
 | [],l=>rfl
 | k::ks,l=>by show iT ((l.take p).set k.toNat v) ks v=(iT (l.set k.toNat v) ks v).take p;rw[←S5 v p ks,List.take_set]
section
variable {ts:List Nd}
def S6(a:∀j,j<ts.length->ord ts j=true):∀(i j:Nat) (u:Int),i<=ts.length->(oQ ts i)[j]?=some u->u = -1\/(j:Int)<u/\u<i
 | 0,j,u,_,h=>by
  simp only[oQ,List.getElem?_replicate]at h;split at h
  ·injection h with h;exact Or.inl h.symm
  ·cases h
 | i+1,j,u,hi,h=>by
  rw[oQ]at h;rcases KN i (fT ts i) (oQ ts i) j with e | ⟨e,k,b,g⟩
  ·rw[e]at h;have:=S6 a i j u (by omega) h;omega
  ·rw[e]at h;injection h with h;have:=oI (a i (by omega)) k b;right;omega
def S7(a:∀j,j<ts.length->ord ts j=true):∀(i j:Nat),i<=j->j<ts.length->(oQ ts i)[j]?=some (-1)
 | 0,j,_,hj=>by rw[oQ,List.getElem?_replicate,ao hj]
 | i+1,j,hi,hj=>by
  rw[oQ];rcases KN i (fT ts i) (oQ ts i) j with e | ⟨e,k,b,g⟩
  ·rw[e];exact S7 a i j (by omega) hj
  ·have:=oI (a i (by omega)) k b;omega
def rz(ts:List Nd)(i:Nat):List Int:=(oQ ts i).take i++List.replicate (ts.length - i) 0
def Cj{i:Nat}(hi:i<=ts.length):(rz ts i).length=ts.length:=by simp[rz,uR];omega
def ako(a:∀j,j<ts.length->ord ts j=true){i:Nat}(hi:i<ts.length):(rz ts i).set i (-1)=(oQ ts i).take (i+1)++List.replicate (ts.length - (i+1)) 0:=by
 have hl:=uR ts i;have e:(oQ ts i)[i]'(by omega) = -1:=by have:=S7 a i i (φ _) hi;rw[df (by omega)]at this;injection this
 unfold rz;rw[List.set_append_right _ _ (by simp;omega),fL (by omega),e,show ts.length - i=ts.length - (i+1)+1 by omega,ub];simp[show i - min i (oQ ts i).length=0 by omega]
def akp(a:∀j,j<ts.length->ord ts j=true){i:Nat}(hi:i<ts.length):iT ((rz ts i).set i (-1)) (fT ts i) i=rz ts (i+1):=by have hl:=uR ts i;rw[ako a hi,S4 _ _ _ _ λk b=>by have:=oI (a i hi) k b;rw[ot];omega,S5];rfl
end
section
variable {h0:Hf}{n0:K}{ts:List Nd}{i:Nat}{t:V}{bl:K}{Q1:Ex->Env->Hf->K->Prop}
def akq(ht:aZ h0 n0 t ts)(hi:i<ts.length)(s:ts[i].kids.length<1000000)(l:∀k∈ts[i].kids,k<i/\0<=k)(hb:n0.num<=bl.num)
 (m:∀E' h',Ext h0 n0 h' n->Cl h' n bl (cO .i64 (iT ((rz ts i).set i (-1)) ts[i].kids i)) 3->ρ [(k0,t),(k3,.sl bl 0 ts.length ts.length),(k4,iN i)] E'->Q1 .normal E' h' n):
 ∀(r j:Nat) (L:List Int) (h:Hf),ts[i].kids.length - j=r->j<=ts[i].kids.length->L.length=ts.length->Ext h0 n0 h n->Cl h n bl (cO .i64 L) 3->iT L (ts[i].kids.drop j) i=iT ((rz ts i).set i (-1)) ts[i].kids i->WC C acS [(k0,t),(k3,.sl bl 0 ts.length ts.length),(k4,iN i),(k5,iN j)] h n (blk 2 Q1):=by
 intro r
 induction r with
 | zero=>
  intro j L h hj o b e c hs;have:j=ts[i].kids.length:=by omega
  subst this;obtain⟨cs,sl⟩:=(ht.ext e).sl;obtain⟨vv,kv,a⟩:=(ht.ext e).node hi;rw[jw]at hs;refine ax ?_;refine θ<|ε<|γ U<|γ U<|γ U<|aB U U sl hi<|σ U<|ξ U (a.ks _)<|al U a.kids<|ay U U<|δ ?_;refine ae U (by simp)<|aJ ?_;exact m _ _ e (by rw[←hs];exact c) (ρ.rf U)
 | succ r ih=>
  intro j L h hj o b e c hs;have d:j<ts[i].kids.length:=by omega
  obtain⟨cs,sl⟩:=(ht.ext e).sl;obtain⟨vv,kv,a⟩:=(ht.ext e).node hi;have p:=l ts[i].kids[j] (bK _);have g:=a.kids.get d 1;rw[eo d]at hs;obtain⟨k',q⟩:∃k':Nat,ts[i].kids[j]=(k':Int):=⟨ts[i].kids[j].toNat,by omega⟩;rw[q]at p g hs;have hI:=c.wI b;refine ax ?_;refine θ<|ε<|γ U<|γ U<|γ U<|aB U U sl hi<|σ U<|ξ U (a.ks _)<|al U a.kids<|ay U U<|δ ?_;refine ah U (by simp;omega)<|Ω ?_;refine θ<|aj<|aA<|γ U<|γ U<|γ U<|aB U U sl hi<|σ U<|ξ U (a.ks _)<|γ U<|aB U U a.kids d<|ξ U g<|γ U<|aB U U hI (by omega)<|aH U U c.2 (sX (i:=k') (by omega) _ (by simp[V.off])) <| λh1 f b1=>δ ?_;have b1:bm bl h h1:=b1;replace f:h1 bl=_:=f;refine aA<|γ U<|aX U U ⟨by omega,by omega⟩<|γ U<|δ ?_;exact χ (ih (j+1) (L.set k' i) h1 (by omega) (by omega) (by simpa using b) (e.ab b1 hb) ⟨c.1,f⟩ (by simpa[iT]using hs)) (ρ.rf U)
end
def S8(l:fh C){t:V}{ts:List Nd}(ht:aZ h n t ts)(hlen:ts.length<1000000)(m:∀i (hi:i<ts.length),ts[i].kids.length<1000000)(k:∀j,j<ts.length->ord ts j=true)
 (o:∀v' h' n',Ext h n h' n'->da h' n' .i64 v' (pJ ts)->Q v' h' n'):ν C (.f 115 [] []) [t] h n Q:=by
 refine ν.go l.f115 U ?_;obtain⟨cs,hs⟩:=ht.sl;refine ε<|γ U<|δ ?_;refine ε<|γ U<|al U hs<|pA U U (by omega) (by omega) <| λh1 n1 w p b=>γ U<|δ ?_;have c1:Cl h1 n1 n (cO .i64 (rz ts 0)) 3:=⟨by omega,by rw[p,Jq];simp[rz]⟩;refine θ<|ε<|γ U<|δ ?_;have loop:∀(r i:Nat) (h':Hf),ts.length - i=r->i<=ts.length->Ext h n h' n1->Cl h' n1 n (cO .i64 (rz ts i)) 3->WC C Qg [(k0,t),(k3,.sl n 0 ts.length ts.length),(k4,iN i)] h' n1 (blk 0 (sq C acT (fq [.t k2] Q))):=by
  intro r
  induction r with
  | zero=>
   intro i h' q hi e c;have:i=ts.length:=by omega
   subst this;refine ax ?_;refine θ<|ε<|γ U<|γ U<|al U (hs.ext e)<|ay U U<|δ ?_;refine ae U (by simp)<|aJ ?_;refine ε<|γ U<|γ U<|δ (Γ ⟨_,rfl,o _ h' n1 e (c.wI (Cj (φ _)) |> λg=>?_)⟩);have b:rz ts ts.length=pJ ts:=by simp[rz,pJ,kI (Nat.le_of_eq (uR ts _))]
   rw[b]at g;exact g
  | succ r ih=>
   intro i h' q hi e c;have a:i<ts.length:=by omega
   refine ax ?_;refine θ<|ε<|γ U<|γ U<|al U (hs.ext e)<|ay U U<|δ ?_;refine ah U (by simp;omega)<|Ω ?_;refine θ<|aj<|ε<|γ U<|γ U<|aB U U (c.wI (Cj hi)) (by rw[Cj hi];exact a)<|aH U U c.2 (sX (i:=i) (by rw[Cj hi];exact a) _ (by simp[V.off])) <| λh2 d b2=>δ ?_;have b2:bm n h' h2:=b2;have d:h2 n=some (.c (cO .i64 ((rz ts i).set i (-1))) 3 0):=d;refine ε<|γ U<|δ ?_;refine aj<|χ (akq ht a (m i a) (by have:=oI (k i a);rw[jj a]at this;exact this) (φ _) ?_ _ 0 _ h2 rfl (by omega) (by rw[gZ,Cj hi]) (e.ab b2 (φ _)) ⟨c.1,d⟩ rfl) (ρ.rf U);intro E3 u v c3 s;refine bS s ?_;rw[←jj a,akp k a]at c3;refine aA<|γ U<|aX U U ⟨by omega,by omega⟩<|γ U<|δ ?_;exact χ (ih (i+1) u (by omega) (by omega) v c3) (ρ.rf U)
 exact aj<|χ (loop _ 0 h1 rfl (by omega) b c1) (ρ.rf U)
end
section
variable {C:Nat->Option aI}{h:Hf}{n:K}{Q:V->Hf->K->Prop}
def S9(name:S):∀(l:List (S×S)) (i:Nat),iP name l i<(i:Int)+l.length
 | [],i=>by simp only[iP,jy];omega
 | p::l,i=>by
  unfold iP;split
  ·simp only[dy];omega
  ·have:=S9 name l (i+1);simp only[dy];omega
def KO(ts:List Nd)(i:Nat):List S:=match ts[i]? with | some x=>x.vars.map Prod.fst | none=>[]
def Ta{ts:List Nd}{i:Nat}(hi:i<ts.length):KO ts i=ts[i].vars.map Prod.fst:=by simp[KO,hi]
def Gs(ts:List Nd)(name:S):Nat->Int->Int
 | 0,a=>a
 | f+1,a=>if a<0 then a else if name∈KO ts a.toNat then a else Gs ts name f ((pJ ts).getD a.toNat (-1))
def binds(ts:List Nd)(i:Nat)(name:S):Int:=Gs ts name ts.length ((pJ ts).getD i (-1))
section
variable {ts:List Nd}(ho:∀j,j<ts.length->ord ts j=true)
include ho
def Fj{i:Nat}(hi:i<ts.length):∃hl:i<(pJ ts).length,(pJ ts)[i]'hl=(pJ ts).getD i (-1)/\((pJ ts).getD i (-1) = -1\/(i:Int)<(pJ ts).getD i (-1)/\(pJ ts).getD i (-1)<ts.length):=by
 have hl:(pJ ts).length=ts.length:=uR ts _;refine⟨by omega,?_,?_⟩
 ·rw[dH,df (by omega)];rfl
 ·refine S6 ho ts.length i _ (φ _) ?_;rw[dH];show(pJ ts)[i]?=_;rw[df (by omega)];rfl
end
def Ck(l:fh C){t up:V}{ts:List Nd}{i:Nat}{name:S}(ht:aZ h n t ts)(hb:Bd ts)(k:da h n .i64 up (pJ ts))(ho:∀j,j<ts.length->ord ts j=true)(hi:i<ts.length)
 (b:∀h' n',Ext h n h' n'->Q (.i .i64 (binds ts i name)) h' n'):ν C (.f 105 [] []) [t,up,iN i,st name] h n Q:=by
 have hlen:=hb.len;refine ν.go l.f105 U ?_;obtain⟨hl,u,w⟩:=Fj ho hi;have m:=k.get hl 1;rw[u]at m;have loop:∀(f:Nat) (a:Int) (h1:Hf) (n1:K),(a = -1\/0<=a/\a<(ts.length:Int)/\(ts.length:Int)<=a+f)->Ext h n h1 n1->(∀h' n',Ext h n h' n'->Q (.i .i64 (Gs ts name f a)) h' n')->WC C acP [(k0,t),(k1,up),(k2,.i .i64 a),(k3,st name)] h1 n1 (blk 0 (sq C acQ (fq [.t k8] Q))):=by
  intro f
  induction f with
  | zero=>
   intro a h1 n1 d e b;have:a = -1:=by omega
   subst this;refine ax ?_;refine θ<|ε<|γ U<|dj U U<|γ U<|μ U (by simp)<|μ U (by simp)<|μ U (by simp)<|μ U (by simp)<|μ U (by simp)<|μ U (by simp)<|μ U (by simp)<|μ U (by simp)<|aL U (by simp) U<|δ ?_;refine ae U U<|aJ ?_;refine ε<|γ U<|γ U<|δ (Γ ⟨_,rfl,b h1 n1 e⟩)
  | succ f ih=>
   intro a h1 n1 d e b;rcases d with d | ⟨x,y,z⟩
   ·subst d;refine ax ?_;refine θ<|ε<|γ U<|dj U U<|γ U<|μ U (by simp)<|μ U (by simp)<|μ U (by simp)<|μ U (by simp)<|μ U (by simp)<|μ U (by simp)<|μ U (by simp)<|μ U (by simp)<|aL U (by simp) U<|δ ?_;refine ae U U<|aJ ?_;refine ε<|γ U<|γ U<|δ (Γ ⟨_,rfl,b h1 n1 e⟩)
   ·obtain⟨a',rfl⟩:∃a':Nat,a=(a':Int):=⟨a.toNat,by omega⟩;have c:a'<ts.length:=by omega
    obtain⟨cs,sl⟩:=(ht.ext e).sl;obtain⟨vv,kv,o⟩:=(ht.ext e).node c;have A:=hb.vl a' c;obtain⟨p,v,B⟩:=Fj ho c;have q:=k.ext e;unfold Gs at b;rw[Θ (by omega),Int.toNat_natCast,Ta c]at b;refine ax ?_;refine θ<|ε<|γ U<|dj U U<|γ U<|ζ U (by simp)<|γ U<|ζ U (by simp)<|γ U<|ζ U (by simp)<|aB U U sl c<|ζ U (by simp)<|σ U<|ζ U (by simp)<|ξ U (o.vs _)<|ζ U (by simp)<|γ U<|ζ U (by simp)<|ψ U U<|sU l.toCd o.vars (by omega) <| λh2 r g=>ζ U (by simp)<|bZ U<|aU U (by simp) U<|δ ?_;by_cases hm:name∈ts[a'].vars.map Prod.fst
    ·rw[ao hm]at b;refine ae U (by simp only[hm,decide_true];rfl)<|aJ ?_;refine ε<|γ U<|γ U<|δ (Γ ⟨_,rfl,b h2 r (e.trans g)⟩)
    ·rw[Θ hm]at b;have s:=(q.ext g).get p 1;rw[v]at s;refine ah U (by simp only[hm,decide_false];rfl)<|Ω ?_;refine aj<|aA<|γ U<|γ U<|aB U U (q.ext g) p<|ξ U s<|γ U<|δ ?_;exact χ (ih _ h2 r (by omega) (e.trans g) b) (ρ.rf U)
 refine ε<|γ U<|δ ?_;refine θ<|ε<|γ U<|γ U<|aB U U k hl<|ξ U m<|γ U<|δ ?_;refine aj<|χ (loop ts.length _ h n (by omega) (Ext.refl _ _) b) (ρ.rf U)
def Td(o:fh C){t up:V}{ts:List Nd}{i:Nat}{name:S}(ht:aZ h n t ts)(hb:Bd ts)(k:da h n .i64 up (pJ ts))(ho:∀j,j<ts.length->ord ts j=true)(hi:i<ts.length)
 (c:∀s,Q (.u [st s,.b (decide (0<=binds ts i name))]) h n):ν C (.f 116 [] []) [t,up,iN i,st name,.ns] h n Q:=by
 have hlen:=hb.len;refine ν.go o.f116 U ?_;obtain⟨hl,x,A⟩:=Fj ho hi;have p:=k.get hl 1;rw[x]at p;have stop:(∀s,Q (.u [st s,.b false]) h n)->∀{E},ρ [(k3,st name),(k4,.ns)] E->WC C Qh E h n (fq [.t qg,.t qh] Q):=by intro c E s;refine bS s ?_;refine θ<|ε<|γ U<|γ U<|ψ U U<|uK o.toCd (l:=[]) (κ.ns _ _ _) (by simp)<|γ U<|δ ?_;refine ε<|γ U<|dj U U<|δ ?_;refine ae U (by simp[iP])<|Ω ?_;refine ε<|γ U<|γ U<|δ (Γ ⟨_,rfl,c []⟩)
 have loop:∀(f:Nat) (a:Int),(a = -1\/0<=a/\a<(ts.length:Int)/\(ts.length:Int)<=a+f)->(∀s,Q (.u [st s,.b (decide (0<=Gs ts name f a))]) h n)->WC C acU [(k0,t),(k1,up),(k3,st name),(k4,.ns),(rS,.i .i64 a)] h n (blk 0 (sq C Qh (fq [.t qg,.t qh] Q))):=by
  intro f
  induction f with
  | zero=>
   intro a m c;have:a = -1:=by omega
   subst this;refine ax ?_;refine θ<|ε<|γ U<|dj U U<|δ ?_;refine ae U (by simp)<|aJ ?_;exact stop (λs=>c s) (ρ.rf U)
  | succ f ih=>
   intro a m c;rcases m with m | ⟨B,D,F⟩
   ·subst m;refine ax ?_;refine θ<|ε<|γ U<|dj U U<|δ ?_;refine ae U (by simp)<|aJ ?_;exact stop (λs=>c s) (ρ.rf U)
   ·obtain⟨a',rfl⟩:∃a':Nat,a=(a':Int):=⟨a.toNat,by omega⟩;have d:a'<ts.length:=by omega
    obtain⟨cs,sl⟩:=ht.sl;obtain⟨vv,kv,e⟩:=ht.node d;have G:=hb.vl a' d;obtain⟨q,y,H⟩:=Fj ho d;unfold Gs at c;rw[Θ (by omega),Int.toNat_natCast,Ta d]at c;refine ax ?_;refine θ<|ε<|γ U<|dj U U<|δ ?_;refine ah U (by simp)<|Ω ?_;refine θ<|aj<|ε<|γ U<|γ U<|aB U U sl d<|σ U<|ξ U (e.vs _)<|γ U<|ψ U U<|uK o.toCd e.vars (by omega)<|γ U<|δ ?_;refine ε<|γ U<|dj U U<|δ ?_;by_cases hm:name∈ts[a'].vars.map Prod.fst
    ·rw[ao hm,nE (by omega)]at c;have r:=(Bt name ts[a'].vars 0).2 hm;obtain⟨k',z⟩:∃k':Nat,iP name ts[a'].vars 0=(k':Int):=⟨(iP name ts[a'].vars 0).toNat,by omega⟩;have v:k'<ts[a'].vars.length:=by have:=S9 name ts[a'].vars 0;omega
     rw[z];refine ah U (by simp) ?_;refine ε<|γ U<|γ U<|aB U U sl d<|σ U<|ξ U (e.vs _)<|γ U<|aB U U e.vars v<|σ U<|ξ U (e.vars.sort v _)<|γ U<|γ U<|δ (Γ ⟨_,rfl,c _⟩)
    ·rw[Θ hm]at c;have r:¬ 0<=iP name ts[a'].vars 0:=λg=>hm ((Bt name ts[a'].vars 0).1 g);have w:=k.get q 1;rw[y]at w;refine ae U (by simpa using r)<|Ω ?_;refine aA<|γ U<|γ U<|aB U U k q<|ξ U w<|γ U<|δ ?_;exact χ (ih _ (by omega) c) (ρ.rf U)
 refine ε<|γ U<|γ U<|δ ?_;refine θ<|ε<|γ U<|γ U<|aB U U k hl<|ξ U p<|γ U<|δ ?_;refine aj<|χ (loop ts.length _ (by omega) c) (ρ.rf U)
end
section
variable {C:Nat->Option aI}{h:Hf}{n:K}{Q:V->Hf->K->Prop}
def jL(ts:List Nd):Nat->List (S×S)
 | 0=>[]
 | i+1=>match ts[i]? with
  | some x=>if x.op=3/\binds ts i x.name<0/\x.name ∉ (jL ts i).map Prod.fst then jL ts i++[(x.name,x.sort)] else jL ts i
  | none=>jL ts i
def zM(ts:List Nd):List (S×S):=jL ts ts.length
def uS{ts:List Nd}{i:Nat}(hi:i<ts.length):jL ts (i+1)=if ts[i].op=3/\binds ts i ts[i].name<0/\ts[i].name ∉ (jL ts i).map Prod.fst then jL ts i++[(ts[i].name,ts[i].sort)] else jL ts i:=by simp only[jL,df hi]
def Fk(ts:List Nd):∀i,(jL ts i).length<=i
 | 0=>φ _
 | i+1=>by
  have:=Fk ts i;unfold jL;split
  ·split
   ·simp;omega
   ·omega
  ·omega
def MO(s:fh C){t:V}{ts:List Nd}(ht:aZ h n t ts)(hb:Bd ts)(h0:0<ts.length)(P:∀j,j<ts.length->ord ts j=true)
 (hQ:∀v' h' n',Ext h n h' n'->du h' n' v' (zM ts)->(v'=.ns\/n.num<=v'.blk.num)->Q v' h' n'):ν C (.f 37 [] []) [t] h n Q:=by
 have hlen:=hb.len;obtain⟨m,tm⟩:=ht.get;refine ν.go s.f37 U ?_;refine ε<|cR U ht.cells (by simp only[aD,ht.one];rfl) <| λh1 n1 cA a1 G=>γ U<|δ ?_;have ct1:Cl h1 n1 n [t] 23:=⟨by omega,a1⟩;refine ε<|ξ U (ct1.ld U _)<|ψ U U<|S3 s (ht.ext G) (by omega) h0 hb.gw P <| λvu h2 n2 e2 R=>bA <| λa r gJ a3 e3=>aH U U a3 (mR R.cells R.one U) <| λH a4 b4=>δ ?_;have y2:=e2.1;have x4:Ext h1 n1 H r:=(e2.trans e3).ab b4 (by omega);have Z:Cl H r n2 [vu] 85:=⟨by omega,a4⟩;have W5:da H r .i64 vu (pJ ts):=κ.ab (R.ext e3) b4 (R.cP.imp id λg=>by omega);have S:=ct1.ext x4;refine ε<|bA <| λh5 n5 oi a5 e5=>δ ?_;have x5:=x4.trans e5;refine θ<|ε<|ξ U ((S.ext e5).ld U _)<|ψ U U<|Jk s.toCd (tm.ext (G.trans x5)) (by omega) ?_;intro b e h6 u x6 a6 hb6 arJ it;refine δ<|aj ?_;have z6:=x6.1;have z4:=x4.1;let I:Nat->Hf->K->Prop:=λi h' n'=>Ext H r h' n'/\(b.num<n'.num/\h' b=some (.c [t] e 0))/\u.num<n'.num/\∃vo,Cl h' n' r [vo] 28/\ea h' 64 2 vo (jL ts i).length (fW (jL ts i))/\(vo=.ns\/u.num<vo.blk.num/\vo.blk.num<n'.num);refine sJ U it I (λ_ _ _=>False) ?_ ?_ ?_ ?_ ?_ ?_ ?_ ?_
 ·rintro j h1 n1 h' n' ⟨g1,⟨v,J⟩,T,vo,B,w,l⟩ ex;have:=ex.1;exact⟨g1.trans ex,⟨by omega,by rw[ex.2 _ v];exact J⟩,by omega,vo,B.ext ex,w.ext (l.imp id λg=>ex.2 _ g.2),l.imp id λg=>⟨g.1,by omega⟩⟩
 ·rintro j h1 n1 h' ⟨g1,⟨v,J⟩,T,vo,B,w,l⟩ x;exact⟨g1.ab x (by omega),⟨v,by rw[x _ (by omega)];exact J⟩,T,vo,B.ab x (by omega),w.ext (l.imp id λg=>x _ (by omega)),l⟩
 ·rintro j h1 n1 ⟨g1,v,_⟩;exact⟨v.1,v.2,tm.ext ((G.trans x4).trans g1)⟩
 ·intro j hj;rw[qp];rfl
 ·intro h' x;have hs:u.succ.num=u.num+1:=K.eF u;have g1:Ext H r h' u.succ:=((e5.trans x6).ab x (by omega)).succ;refine⟨g1,⟨by omega,by rw[x _ (by omega)];exact a6⟩,by omega,.ns,⟨by omega,?_⟩,ea.ns _ _ _,Or.inl U⟩;rw[x _ (by omega),x6.2 _ (by omega)];exact a5
 ·rintro j hj h1 m1 E1 oW ⟨g1,⟨v,J⟩,T,vo,B,w,l⟩ fH;have y:j<ts.length:=by rw[pD]at hj;exact hj
  rw[qp]at fH;simp only[jB,lK]at fH;subst fH;have nw:=tm.ext ((G.trans x4).trans g1);obtain⟨vv,kv,eG,kB,gK⟩:=tm.row y;rw[eG,Bs];have bf:=sT ts[j] (κ.one kB) (κ.one gK) (i:=j);refine aA<|bA <| λh7 D arK a7 L=>aH U U a7 (cj rfl rfl bf) <| λh8 a8 b8=>δ ⟨rfl,by rw[b8 _ (by omega),L.2 _ oW],λA M=>?_⟩;have o:Cl A D m1 (kC ts[j] vv kv j) 141:=(Cl.ab ⟨by omega,a8⟩ M (by omega));have p:Ext H r A D:=((g1.trans L).ab b8 (by omega)).ab M (by omega);have N:Cl A D r [vo] 28:=((B.ext L).ab b8 (by omega)).ab M (by omega);have W:ea A 64 2 vo (jL ts j).length (fW (jL ts j)):=w.ext (l.imp id λg=>by rw[M _ (by omega),b8 _ (by omega),L.2 _ g.2]);have q9:A b=some (.c [t] e 0):=by rw[M _ (by omega),b8 _ (by omega),L.2 _ v];exact J
  refine aj ?_;have done:∀{h' n' E},Ext A D h' n'->jL ts (j+1)=jL ts j->blk 1 (VX u (A u) (I (j+1)) λ_ _ _=>False) .normal E h' n':=by intro h' n' E ex hf;have:=ex.1;refine⟨by omega,ex.2 _ (by omega),p.trans ex,⟨by omega,by rw[ex.2 _ (by omega)];exact q9⟩,by omega,vo,N.ext ex,?_,l.imp id λg=>⟨g.1,by omega⟩⟩;rw[hf];exact W.ext (l.imp id λg=>ex.2 _ (by omega))
  by_cases a:ts[j].op=3
  case neg=>
   refine ε<|σ U<|σ U<|ξ U (o.ld U _)<|aS U U<|γ U<|μ U (by simpa using a)<|μ U (by simpa using a)<|μ U (by simpa using a)<|μ U (by simpa using a)<|μ U (by simpa using a)<|μ U (by simpa using a)<|μ U (by simpa using a)<|μ U (by simpa using a)<|μ U (by simpa using a)<|aL U (by simpa using a) U<|γ U<|μ U U<|μ U U<|μ U U<|μ U U<|μ U U<|μ U U<|aL U U U<|δ ?_;exact ae U U<|Ω (done (Ext.refl _ _) (by rw[uS y,Θ (by simp[a])]))
  have W6:=ht.ext ((G.trans x4).trans p);by_cases d:binds ts j ts[j].name<0
  case neg=>
   refine ε<|σ U<|σ U<|ξ U (o.ld U _)<|aS U U<|γ U<|ζ U (by simpa using a)<|ξ U ((S.ext p).ld U _)<|ζ U (by simpa using a)<|ξ U ((Z.ext p).ld U _)<|ζ U (by simpa using a)<|σ U<|ζ U (by simpa using a)<|ξ U (o.ld U _)<|ζ U (by simpa using a)<|σ U<|ζ U (by simpa using a)<|σ U<|ζ U (by simpa using a)<|ξ U (o.ld U _)<|ζ U (by simpa using a)<|ψ U U<|Ck s W6 hb (W5.ext p) P y <| λgP dD q=>ζ U (by simpa using a)<|ay U U<|aU U (by simpa using a) U<|γ U<|μ U (by simpa using d)<|μ U (by simpa using d)<|μ U (by simpa using d)<|μ U (by simpa using d)<|μ U (by simpa using d)<|μ U (by simpa using d)<|aL U (by simpa using d) U<|δ ?_;exact ae U U<|Ω (done q (by rw[uS y,Θ (by simp[d])]))
  have fl:=Fk ts j;have O:=l.imp id And.right;by_cases X:ts[j].name∈(jL ts j).map Prod.fst
  case pos=>
   refine ε<|σ U<|σ U<|ξ U (o.ld U _)<|aS U U<|γ U<|ζ U (by simpa using a)<|ξ U ((S.ext p).ld U _)<|ζ U (by simpa using a)<|ξ U ((Z.ext p).ld U _)<|ζ U (by simpa using a)<|σ U<|ζ U (by simpa using a)<|ξ U (o.ld U _)<|ζ U (by simpa using a)<|σ U<|ζ U (by simpa using a)<|σ U<|ζ U (by simpa using a)<|ξ U (o.ld U _)<|ζ U (by simpa using a)<|ψ U U<|Ck s W6 hb (W5.ext p) P y <| λgP dD q=>ζ U (by simpa using a)<|ay U U<|aU U (by simpa using a) U<|γ U<|ζ U (by simpa using d)<|ξ U ((N.ext q).ld U _)<|ζ U (by simpa using d)<|σ U<|ζ U (by simpa using d)<|σ U<|ζ U (by simpa using d)<|ξ U ((o.ext q).ld U _)<|ζ U (by simpa using d)<|ψ U U<|sU s.toCd (κ.ext (W.sl (n:=D) (O.imp id λg=>by omega)) q) (by omega) <| λfX oM qT=>ζ U (by simpa using d)<|bZ U<|aU U (by simpa using d) U<|δ ?_;exact ae U (by simp only[X,decide_true];rfl)<|Ω (done (q.trans qT) (by rw[uS y,Θ (by simp[X])]))
  refine ε<|σ U<|σ U<|ξ U (o.ld U _)<|aS U U<|γ U<|ζ U (by simpa using a)<|ξ U ((S.ext p).ld U _)<|ζ U (by simpa using a)<|ξ U ((Z.ext p).ld U _)<|ζ U (by simpa using a)<|σ U<|ζ U (by simpa using a)<|ξ U (o.ld U _)<|ζ U (by simpa using a)<|σ U<|ζ U (by simpa using a)<|σ U<|ζ U (by simpa using a)<|ξ U (o.ld U _)<|ζ U (by simpa using a)<|ψ U U<|Ck s W6 hb (W5.ext p) P y <| λgP dD q=>ζ U (by simpa using a)<|ay U U<|aU U (by simpa using a) U<|γ U<|ζ U (by simpa using d)<|ξ U ((N.ext q).ld U _)<|ζ U (by simpa using d)<|σ U<|ζ U (by simpa using d)<|σ U<|ζ U (by simpa using d)<|ξ U ((o.ext q).ld U _)<|ζ U (by simpa using d)<|ψ U U<|sU s.toCd (κ.ext (W.sl (n:=D) (O.imp id λg=>by omega)) q) (by omega) <| λfX oM qT=>ζ U (by simpa using d)<|bZ U<|aU U (by simpa using d) U<|δ ?_;refine ah U (by simp only[X,decide_false];rfl) ?_;have F:=q.trans qT;have zN:=W.ext (h':=fX) (O.imp id λg=>F.2 _ (by omega));have z11:=F.1;refine aA<|ξ U ((N.ext F).ld U _)<|σ U<|σ U<|ξ U ((o.ext F).ld U _)<|σ U<|σ U<|ξ U ((o.ext F).ld U _)<|ji U<|eg U <| λgk tQ Pg xB Y=>jF U (zN.ext (O.imp id λg=>Y.2 _ (by omega))) U (κ.whole (len:=1) (z:=2) (by omega) xB rfl) (by omega) (by omega) (by omega) (by omega) U (O.imp id λg=>by omega) <| λv13 mY vF zO W7 ai9 Mx=>aH U U ((Mx _ (by omega) (l.imp id λg=>by omega)).trans ((Y.2 _ (by omega)).trans (N.ext F).2)) (mR zO.cells zO.one U) <| λtt C4 sC=>δ ?_;have z12:=Y.1;have hk:∀k:K,k.num<D.num->(vo=.ns\/k.num≠vo.blk.num)->k.num≠r.num->tt k=A k:=λk h1 h2 a=>by rw[sC k a,Mx k (by omega) h2,Y.2 k (by omega),F.2 k h1]
  have z9:=p.1;refine⟨by omega,hk _ (by omega) (l.imp id λg=>by omega) (by omega),⟨by omega,λk h1=>by rw[hk k (by omega) (l.imp id λg=>by omega) (by omega),p.2 k h1]⟩,⟨by omega,by rw[hk _ (by omega) (l.imp id λg=>by omega) (by omega)];exact q9⟩,by omega,v13,⟨by omega,C4⟩,?_,Or.inr ⟨by rw[W7];omega,by rw[W7];omega⟩⟩;rw[uS y,ao ⟨a,d,X⟩,gp,O5];exact zO.ext (Or.inr (sC _ (by rw[W7];omega)))
 ·rintro h' n' jZ ⟨g1,_,T,vo,B,w,l⟩;rw[pD]at w;refine ε<|ξ U (B.ld U _)<|γ U<|δ (Γ ⟨_,rfl,hQ _ _ _ ((G.trans x4).trans g1) (w.sl (l.imp id And.right)) (l.imp id λg=>by omega)⟩)
 ·rintro ex h' n' h2 jl hf;exact hf.elim
end
section
variable {C:Nat->Option aI}{h:Hf}{n:K}{Q:V->Hf->K->Prop}
def MQ(c:fh C){t:V}{ts:List Nd}(ht:aZ h n t ts)(hb:Bd ts)(k:∀j,j<ts.length->ord ts j=true)
 (u:∀v' h' n',Ext h n h' n'->du h' n' v' (zM ts)->Q v' h' n'):ν C (.f 40 [] []) [t] h n Q:=by
 have hlen:=hb.len;refine ν.go c.f40 U ?_;refine ε<|γ U<|δ ?_;refine ε<|γ U<|ψ U U<|S8 c ht (by omega) hb.gw k <| λm h1 n1 e v=>γ U<|δ ?_;refine ε<|γ U<|δ ?_;refine θ<|ε<|γ U<|δ ?_;have loop:∀(r i:Nat) (vo:V) (h':Hf) (n':K),ts.length - i=r->i<=ts.length->Gr h1 n1 h' n' 64 2 vo (jL ts i).length (fW (jL ts i))->WC C Qd [(k0,t),(k3,m),(k4,vo),(k5,iN i)] h' n' (blk 0 (sq C Qf (fq [.t k2] Q))):=by
  intro r
  induction r with
  | zero=>
   intro i vo h' n' w hi g;have:i=ts.length:=by omega
   subst this;obtain⟨cs,hs⟩:=(ht.ext (e.trans g.ext)).sl;refine ax ?_;refine θ<|ε<|γ U<|γ U<|al U hs<|ay U U<|δ ?_;refine ae U (by simp)<|aJ ?_;refine ε<|γ U<|γ U<|δ (Γ ⟨_,rfl,u _ h' n' (e.trans g.ext) g.sl⟩)
  | succ r ih=>
   intro i vo h' n' w hi g;have a:i<ts.length:=by omega
   have x:=e.trans g.ext;obtain⟨cs,hs⟩:=(ht.ext x).sl;obtain⟨vv,kv,b⟩:=(ht.ext x).node a;have fl:=Fk ts i;have next:∀{E},ρ [(k0,t),(k3,m),(k4,vo),(k5,iN i)] E->jL ts (i+1)=jL ts i->WC C acR E h' n' (sq C (.loop Qe) (blk 0 (sq C Qf (fq [.t k2] Q)))):=by intro E s hf;refine bS s ?_;refine aA<|γ U<|aX U U ⟨by omega,by omega⟩<|γ U<|δ ?_;refine χ (ih (i+1) vo h' n' (by omega) (by omega) ?_) (ρ.rf U);rw[hf];exact g
   refine ax ?_;refine θ<|ε<|γ U<|γ U<|al U hs<|ay U U<|δ ?_;refine ah U (by simp;omega)<|Ω ?_;by_cases d:ts[i].op=3
   case neg=>
    refine θ<|aj<|θ<|ε<|γ U<|γ U<|aB U U hs a<|σ U<|ξ U (b.op _)<|dR U U<|δ ?_;exact ah U (by simp[d])<|aJ (next (ρ.rf U) (by rw[uS a,Θ (by simp[d])]))
   refine θ<|aj<|θ<|ε<|γ U<|γ U<|aB U U hs a<|σ U<|ξ U (b.op _)<|dR U U<|δ ?_;refine ae U (by simp[d])<|Ω ?_;refine ε<|γ U<|γ U<|γ U<|γ U<|γ U<|aB U U hs a<|σ U<|ξ U (b.name _)<|ψ U U<|Td c (ht.ext x) hb (v.ext g.ext) k a <| λs=>γ U<|bF U U<|bF U U<|γ U<|γ U<|δ ?_;by_cases o:binds ts i ts[i].name<0
   case neg=>
    refine ε<|γ U<|bZ U<|γ U<|μ U (by simp;omega)<|μ U (by simp;omega)<|μ U (by simp;omega)<|μ U (by simp;omega)<|μ U (by simp;omega)<|μ U (by simp;omega)<|μ U (by simp;omega)<|μ U (by simp;omega)<|aL U (by simp;omega) U<|δ ?_;exact ae U U<|Ω (next (ρ.rf U) (by rw[uS a,Θ (by simp[o])]))
   refine ε<|γ U<|bZ U<|γ U<|ζ U (by simp;omega)<|γ U<|ζ U (by simp;omega)<|γ U<|ζ U (by simp;omega)<|γ U<|ζ U (by simp;omega)<|aB U U hs a<|ζ U (by simp;omega)<|σ U<|ζ U (by simp;omega)<|ξ U (b.name _)<|ζ U (by simp;omega)<|ψ U U<|uK c.toCd (l:=jL ts i) g.sl (by omega)<|ζ U (by simp;omega)<|ay U U<|aU U (by simp;omega) U<|δ ?_;by_cases hm:ts[i].name∈(jL ts i).map Prod.fst
   case pos=>
    have p:=(Bt ts[i].name (jL ts i) 0).2 hm;exact ae U (by simpa using p)<|Ω (next (ρ.rf U) (by rw[uS a,Θ (by simp[hm])]))
   have p:¬ 0<=iP ts[i].name (jL ts i) 0:=λg=>hm ((Bt ts[i].name (jL ts i) 0).1 g);refine ah U (by simp;omega) ?_;refine nO<|ak U<|ak U<|ak U<|cK U U hs a<|bG U<|aC U (b.name _) U (fg _ _)<|ak U<|ak U<|cK U U hs a<|bG U<|aC U (b.sort _) U (fg _ _)<|qi U<|lP U <| λJ L M y q=>Pe U (g.own.ext (g.lt.imp id λg=>q.2 _ g)) U (κ.whole (len:=1) (z:=2) (by omega) y rfl) (by omega) (by omega) (by omega) (by omega) U (g.lt.imp id λg=>by omega) <| λA B D o4 F G H=>ak U<|bU (⟨⟨ω (by simp[Nat.testBit]),trivial⟩,⟨ω (by simp[Nat.testBit]),trivial⟩,trivial⟩) ?_;have I:=(g.on q).app o4 F G H;refine aA<|γ U<|aX U U ⟨by omega,by omega⟩<|γ U<|δ ?_;refine χ (ih (i+1) A B D (by omega) (by omega) ?_) (ρ.rf U);rw[uS a,ao ⟨d,o,hm⟩,gp,O5];exact I
 refine aj<|χ (loop _ 0 .ns h1 n1 rfl (by omega) (Gr.ns (Ext.refl _ _))) (ρ.rf U)
def w8(b:fh C){t:V}{ts:List Nd}(hb:Bd ts)(e:Gl h n)(ht:aZ h n t ts)(c:∀v h' n',Ext h n h' n'->du h' n' v (if dn ts=0 then zM ts else [])->Q (.u [v,.i .i64 (dn ts)]) h' n'):ν C (.f 8 [] []) [t] h n Q:=by
 refine ν.go b.f8 U ?_;refine ε<|γ U<|γ U<|δ ?_;refine θ<|ε<|γ U<|ψ U U<|WJ b.toCd hb e ht <| λh1 n1 d=>γ U<|δ ?_;refine ε<|γ U<|dR U U<|δ ?_;by_cases a:dn ts=0
 ·obtain⟨rt,_⟩:=Cc hb a;rw[a]at c ⊢;refine ae U (by simp)<|Ω ?_;refine ε<|γ U<|ψ U U<|MO b (ht.ext d) hb rt.pos rt.ord <| λv h2 g j k _=>γ U<|γ U<|δ (Γ ⟨_,rfl,c v h2 g (d.trans j) (by rw[ao rfl];exact k)⟩)
 ·refine ah U (by simp[a]) ?_;refine ε<|γ U<|γ U<|γ U<|δ (Γ ⟨_,rfl,c .ns h1 n1 d (by rw[Θ a];exact κ.ns _ _ _)⟩)
def w10(b:fh C){t:V}{ts:List Nd}(hb:Bd ts)(ht:aZ h n t ts)(c:∀v h' n',Ext h n h' n'->du h' n' v (if dn ts=0 then zM ts else [])->Q (.u [v,.i .i64 (dn ts)]) h' n'):ν C (.f 10 [] []) [t] h n Q:=by
 refine ν.go b.f10 U ?_;refine ε<|γ U<|γ U<|δ ?_;refine θ<|ε<|γ U<|ψ U U<|Wi b.toCd hb ht <| λh1 n1 d=>γ U<|δ ?_;refine ε<|γ U<|dR U U<|δ ?_;by_cases a:dn ts=0
 ·obtain⟨rt,_⟩:=Cc hb a;rw[a]at c ⊢;refine ae U (by simp)<|Ω ?_;refine ε<|γ U<|ψ U U<|MQ b (ht.ext d) hb rt.ord <| λv h2 e g j=>γ U<|γ U<|δ (Γ ⟨_,rfl,c v h2 e (d.trans g) (by rw[ao rfl];exact j)⟩)
 ·refine ah U (by simp[a]) ?_;refine ε<|γ U<|γ U<|γ U<|δ (Γ ⟨_,rfl,c .ns h1 n1 d (by rw[Θ a];exact κ.ns _ _ _)⟩)
end
section
abbrev Bi:=S×List Nd
def iE:List Bi->List V->List V
 | x::l,m::ms=>st x.1::m::iE l ms
 | _,_=>[]
def Te:∀{l:List Bi} {ms:List V} (hm:ms.length=l.length) {i:Nat} (h:i<l.length),((iE l ms).drop (i*2)).take 2=[st l[i].1,ms[i]'(by omega)]
 | [],_,_,i,h=>by simp at h
 | x::l,[],hm,_,_=>by simp at hm
 | x::l,m::ms,hm,0,_=>by simp[iE]
 | x::l,m::ms,hm,i+1,h=>by rw[show(i+1)*2=i*2+2 by omega];simp only[iE,xR,pb];exact Te (by simpa using hm) (by simpa using h)
def KQ:∀{l:List Bi} {ms:List V} (hm:ms.length=l.length) (l':List Bi) (a:List V),iE (l++l') (ms++a)=iE l ms++iE l' a
 | [],[],_,_,_=>rfl
 | [],_::_,hm,_,_=>by simp at hm
 | x::l,[],hm,_,_=>by simp at hm
 | x::l,m::ms,hm,l',a=>by simp only[pc,iE,KQ (show ms.length=l.length by simpa using hm)]
def dZ(h:Hf)(n:K)(v:V)(l:List Bi):Prop:=∃ms:List V,∃hm:ms.length=l.length,κ h n 2 v l.length (iE l ms)/\∀i (hi:i<l.length),aZ h n (ms[i]'(by omega)) l[i].2
section
variable {h h':Hf}{n n':K}{v:V}{l:List Bi}
def dZ.ext(a:dZ h n v l)(e:Ext h n h' n'):dZ h' n' v l:=by obtain⟨ms,hm,h1,h2⟩:=a;exact⟨ms,hm,h1.ext e,λi hi=>(h2 i hi).ext e⟩
def dZ.sl(a:dZ h n v l):∃cs,κ h n 2 v l.length cs:=by obtain⟨ms,hm,h1,_⟩:=a;exact⟨_,h1⟩
def dZ.at(a:dZ h n v l){i:Nat}(hi:i<l.length):∃m,bj h true 2 (.p v.blk (v.off+i*2))=some (.a [st l[i].1,m])/\aZ h n m l[i].2:=by obtain⟨ms,hm,h1,h2⟩:=a;exact⟨_,by rw[h1.jP (by omega) (by omega),Te hm hi],h2 i hi⟩
end
def vG(name:S):List Bi->Nat->Int
 | [],_=>-1
 | p::l,i=>if p.1=name then (i:Int) else vG name l (i+1)
def my(name:S):List Bi->Option (List Nd)
 | []=>none
 | p::l=>if p.1=name then some p.2 else my name l
def Fl(name:S):∀(l:List Bi) (i:Nat),(vG name l i = -1/\my name l=none)\/∃k,vG name l i=((i+k:Nat):Int)/\∃a:k<l.length,my name l=some l[k].2
 | [],i=>Or.inl ⟨rfl,rfl⟩
 | p::l,i=>by
  by_cases hp:p.1=name
  ·exact Or.inr ⟨0,by simp[vG,hp],by simp,by simp[my,hp]⟩
  ·rcases Fl name l (i+1) with ⟨h1,h2⟩ | ⟨k,h1,a,h2⟩
   ·exact Or.inl ⟨by simp only[vG,hp,if_false];exact h1,by simp only[my,hp,if_false];exact h2⟩
   ·refine Or.inr ⟨k+1,?_,by simp;omega,?_⟩
    ·simp only[vG,hp,if_false,h1];omega
    ·simp only[my,hp,if_false,h2,pb]
variable {C:Nat->Option aI}{h:Hf}{n:K}{Q:V->Hf->K->Prop}
def W9(d:fh C){v:V}{l:List Bi}{name:S}(hv:dZ h n v l)(hlen:l.length<1000000)(a:Q (.i .i64 (vG name l 0)) h n):ν C (.f 51 [] []) [v,st name] h n Q:=by
 refine ν.go d.f51 U ?_;obtain⟨cs,hs⟩:=hv.sl;refine ε<|γ U<|δ ?_;refine θ<|ε<|γ U<|δ ?_;have loop:∀(r i:Nat),l.length - i=r->i<=l.length->Q (.i .i64 (vG name (l.drop i) i)) h n->WC C ada [(k0,v),(k1,st name),(k5,iN i)] h n (blk 0 (sq C adb (fq [.t k4] Q))):=by
  intro r
  induction r with
  | zero=>
   intro i e hi a;have:i=l.length:=by omega
   subst this;refine ax ?_;refine θ<|ε<|γ U<|γ U<|al U hs<|ay U U<|δ ?_;refine ae U (by simp)<|aJ ?_;rw[jw]at a;refine ε<|γ U<|δ (Γ ⟨_,rfl,a⟩)
  | succ r ih=>
   intro i e hi a;have c:i<l.length:=by omega
   obtain⟨m,g,_⟩:=hv.at c;rw[eo c,vG]at a;refine ax ?_;refine θ<|ε<|γ U<|γ U<|al U hs<|ay U U<|δ ?_;refine ah U (by simp;omega)<|Ω ?_;refine θ<|aj<|ε<|γ U<|γ U<|aB U U hs c<|σ U<|ξ U (ka g rfl)<|γ U<|eC U U<|δ ?_;by_cases b:l[i].1=name
   ·rw[ao b]at a;refine ah U (by simpa using b) ?_;refine ε<|γ U<|γ U<|δ (Γ ⟨_,rfl,a⟩)
   ·rw[Θ b]at a;refine ae U (by simpa using b)<|Ω ?_;refine aA<|γ U<|aX U U ⟨by omega,by omega⟩<|γ U<|δ ?_;exact χ (ih (i+1) (by omega) (by omega) a) (ρ.rf U)
 exact aj<|χ (loop _ 0 rfl (by omega) a) (ρ.rf U)
def Tf{E:Env}{k k':K}{sz:Nat}{p v w:V}(h1:lk E k=some p)(h2:bj h true sz p=some v)(a:lk E k'=some w):j6 [.cell k true sz,.t k'] E h=some (.u [v,w]):=by simp only[j6,ph,rp,h1,h2,a]
def Xa(F:fh C){v:V}{l:List Bi}{name:S}(hv:dZ h n v l)(hlen:l.length<1000000)(z:∀s m h' n',Ext h n h' n'->aZ h' n' m ((my name l).getD [])->Q (.u [.a [st s,m],.b (my name l).isSome]) h' n'):ν C (.f 43 [] []) [v,st name] h n Q:=by
 refine ν.go F.f43 U ?_;obtain⟨cs,hs⟩:=hv.sl;refine ε<|bA <| λh1 n1 R A d=>γ U<|δ ?_;refine θ<|ε<|γ U<|al U (hs.ext d)<|γ U<|δ ?_;have loop:∀(r i:Nat) (h':Hf) (n':K),l.length - i=r->i<=l.length->Ext h1 n1 h' n'->my name l=my name (l.drop i)->WC C acY [(k1,st name),(k4,.p n 0),(k8,v),(k9,iN l.length),(qg,iN i)] h' n' (blk 0 (sq C acZ (fq [.cell k4 true 2,.t k5] Q))):=by
  intro r
  induction r with
  | zero=>
   intro i h' n' G hi e hf;have:i=l.length:=by omega
   subst this;rw[jw]at hf;have x:h' n=some (.c [.s 0 0,.ns] 38 0):=(e.2 n (by omega)).trans A;have H:=e.1;refine ax ?_;refine ε<|ay U U<|δ ?_;refine θ<|ae U (by simp)<|aJ ?_;refine ε<|ji U<|aH U U x (cj (l:=[.s 0 0,.ns]) U U U) <| λj o b3=>γ U<|δ ?_;refine Γ ⟨_,Tf rfl (bc o (iL rfl)) U,?_⟩;have:=z [] .ns j n' ((d.trans e).ab b3 (φ _)) (by rw[hf];exact aZ.nil _ _);rw[hf]at this;exact this
  | succ r ih=>
   intro i h' n' G hi e hf;have q:i<l.length:=by omega
   obtain⟨m,B,tm⟩:=(hv.ext (d.trans e)).at q;have H:=e.1;rw[eo q,my]at hf;refine ax ?_;refine ε<|ay U U<|δ ?_;refine θ<|ah U (by simp;omega)<|Ω ?_;have D:aD [st l[i].1,m]=true:=by simp only[aD,tm.one];rfl
   refine θ<|aj<|ε<|aB U U (hs.ext (d.trans e)) q<|ξ U B<|bA <| λh2 k T x I=>aH U U x (cj (l:=[st l[i].1,m]) U U D) <| λj o b3=>δ ?_;have b3:bm n' h2 j:=b3;have x3:Ext h' n' j k:=I.ab b3 (φ _);refine ε<|σ U<|ξ U (cE o rfl _)<|γ U<|eC U U<|δ ?_;by_cases w:l[i].1=name
   ·rw[ao w]at hf;refine ah U (by simpa using w) ?_;have J:j n=some (.c [.s 0 0,.ns] 38 0):=(x3.2 n (by omega)).trans ((e.2 n (by omega)).trans A);refine ε<|ξ U (bc o (iL rfl))<|aH U U J (cj (l:=[st l[i].1,m]) U U D) <| λy L b5=>γ U<|δ ?_;refine Γ ⟨_,Tf rfl (bc L (iL rfl)) U,?_⟩;have E:Ext h n y k:=((d.trans e).trans x3).ab b5 (φ _);have M:aZ y k m l[i].2:=by
     obtain⟨N,O,P⟩:=hv.at q;have:N=m:=by have g:=(d.trans e).ld (hs.pk (by omega)) true 2 (v.off+i*2);rw[O,B]at g;injection g with g;injection g with g;injection g with _ g;injection g with g;exact g.symm
     subst this;exact P.ext E
    have:=z l[i].1 m y k E (by rw[hf];exact M);rw[hf]at this;exact this
   ·rw[Θ w]at hf;refine ae U (by simpa using w)<|Ω ?_;refine aA<|aX U U ⟨by omega,by omega⟩<|γ U<|δ ?_;exact χ (ih (i+1) j k (by omega) (by omega) (e.trans x3) hf) (ρ.rf U)
 exact aj<|χ (loop _ 0 h1 n1 rfl (by omega) (Ext.refl _ _) U) (ρ.rf U)
end
section
variable {C:Nat->Option aI}{h:Hf}{n:K}{Q:V->Hf->K->Prop}
def mz(ts:List Nd)(l:List Bi):Nat->Int
 | 0=>ts.length
 | i+1=>match ts[i]? with
  | some x=>if x.op=3/\binds ts i x.name<0 then (match my x.name l with | some b=>mz ts l i+(b.length:Int) - 1 | none=>mz ts l i) else mz ts l i
  | none=>mz ts l i
def KS(ts:List Nd)(l:List Bi):Int:=mz ts l ts.length
def uT{ts:List Nd}{l:List Bi}{i:Nat}(hi:i<ts.length):mz ts l (i+1)=if ts[i].op=3/\binds ts i ts[i].name<0 then (match my ts[i].name l with | some b=>mz ts l i+(b.length:Int) - 1 | none=>mz ts l i) else mz ts l i:=by simp only[mz,df hi]
def Cm{name:S}:∀{l:List Bi} {b:List Nd},my name l=some b->∃p∈l,p.2=b
 | [],b,h=>by cases h
 | p::l,b,h=>by
  unfold my at h;split at h
  ·injection h with h;exact⟨p,by simp,h⟩
  ·obtain⟨q,h1,h2⟩:=Cm h;exact⟨q,by simp[h1],h2⟩
def KT{ts:List Nd}{l:List Bi}(hl:∀p∈l,p.2.length<100000):∀i,(ts.length:Int) - i<=mz ts l i/\mz ts l i<=ts.length+i*100000
 | 0=>by simp[mz]
 | i+1=>by
  have:=KT (ts:=ts) hl i;unfold mz;split
  ·split
   ·split
    ·rename_i b hb;obtain⟨p,h1,h2⟩:=Cm hb;have:=hl p h1;rw[h2]at this;omega
    ·omega
   ·omega
  ·omega
def w45(A:fh C){t vl:V}{ts:List Nd}{l:List Bi}(ht:aZ h n t ts)(hl:dZ h n vl l)(hb:Bd ts)(h0:0<ts.length)(T:∀j,j<ts.length->ord ts j=true)(eH:∀p∈l,p.2.length<100000)(gH:l.length<1000000)
 (hQ:∀h' n',Ext h n h' n'->Q (.i .i64 (KS ts l)) h' n'):ν C (.f 45 [] []) [t,vl] h n Q:=by
 have hlen:=hb.len;obtain⟨m,tm⟩:=ht.get;obtain⟨ls,u9⟩:=hl.sl;refine ν.go A.f45 U ?_;refine ε<|cR U ht.cells (by simp only[aD,ht.one];rfl) <| λh1 n1 cA a1 e1=>cR U u9.cells (by simp only[aD,u9.one];rfl) <| λh2 W dS a2 e2=>γ U<|δ ?_;have F:Cl h2 W n [t] 23:=Cl.ext ⟨by omega,a1⟩ e2;have cl:Cl h2 W n1 [vl] 97:=⟨by omega,a2⟩;have x2:=e1.trans e2;refine ε<|ξ U (F.ld U _)<|ψ U U<|S3 A (ht.ext x2) (by omega) h0 hb.gw T <| λvu h3 n3 X M=>bA <| λh4 k jZ a4 e4=>aH U U a4 (mR M.cells M.one U) <| λB a5 b5=>δ ?_;have u:Ext h2 W B k:=(X.trans e4).ab b5 (by have:=X.1;omega);have z3:=X.1;have cu:Cl B k n3 [vu] 85:=⟨by omega,a5⟩;have iu5:da B k .i64 vu (pJ ts):=κ.ab (M.ext e4) b5 (M.cP.imp id λg=>by omega);obtain⟨cs,hs⟩:=(ht.ext (x2.trans u)).sl;refine ε<|ξ U ((F.ext u).ld U _)<|al U hs<|bA <| λh6 n6 jl a6 e6=>aH U U a6 U <| λh7 Y b7=>δ ?_;have Z:Ext B k h7 n6:=e6.ab b7 (φ _);have Y:h7 k=some (.c [.i .i64 (mz ts l 0)] 3 0):=Y;have y7:=u.trans Z;refine θ<|ε<|ξ U ((F.ext y7).ld U _)<|ψ U U<|Jk A.toCd (tm.ext (x2.trans y7)) (by omega) ?_;intro b e h8 D x8 a8 hb8 arL it;refine δ<|aj ?_;have z8:=x8.1;have z7:=Z.1;have z5:=u.1;let I:Nat->Hf->K->Prop:=λi h' n'=>Ext B k h' n'/\(b.num<n'.num/\h' b=some (.c [t] e 0))/\D.num<n'.num/\Cl h' n' k [.i .i64 (mz ts l i)] 3;refine sJ U it I (λ_ _ _=>False) ?_ ?_ ?_ ?_ ?_ ?_ ?_ ?_
 ·rintro j h1 n1 h' n' ⟨g1,⟨o,G⟩,N,q⟩ ex;have:=ex.1;exact⟨g1.trans ex,⟨by omega,by rw[ex.2 _ o];exact G⟩,by omega,q.ext ex⟩
 ·rintro j h1 n1 h' ⟨g1,⟨o,G⟩,N,q⟩ d;exact⟨g1.ab d (by omega),⟨o,by rw[d _ (by omega)];exact G⟩,N,q.ab d (by omega)⟩
 ·rintro j h1 n1 ⟨g1,o,_⟩;exact⟨o.1,o.2,tm.ext ((x2.trans u).trans g1)⟩
 ·intro j hj;rw[qp];rfl
 ·intro h' d;have hs:D.succ.num=D.num+1:=K.eF D;refine⟨((Z.trans x8).ab d (by omega)).succ,⟨by omega,by rw[d _ (by omega)];exact a8⟩,by omega,⟨by omega,?_⟩⟩;rw[d _ (by omega),x8.2 _ (by omega)];exact Y
 ·rintro j hj h1 m1 E1 F9 ⟨g1,⟨o,G⟩,N,q⟩ fH;have v:j<ts.length:=by rw[pD]at hj;exact hj
  rw[qp]at fH;simp only[jB,lK]at fH;subst fH;obtain⟨vv,kv,eG,kB,gK⟩:=tm.row v;rw[eG,Bs];have bf:=sT ts[j] (κ.one kB) (κ.one gK) (i:=j);refine aA<|bA <| λh9 H arM a9 O=>aH U U a9 (cj rfl rfl bf) <| λgP oE P=>δ ⟨rfl,by rw[P _ (by omega),O.2 _ F9],λw R=>?_⟩;have r:Cl w H m1 (kC ts[j] vv kv j) 141:=(Cl.ab ⟨by omega,oE⟩ R (by omega));have x:Ext B k w H:=((g1.trans O).ab P (by omega)).ab R (by omega);have Dj:Cl w H k [.i .i64 (mz ts l j)] 3:=((q.ext O).ab P (by omega)).ab R (by omega);have Gt:w b=some (.c [t] e 0):=by rw[R _ (by omega),P _ (by omega),O.2 _ o];exact G
  refine aj ?_;have done:∀{h' n' E},Ext w H h' n'->mz ts l (j+1)=mz ts l j->blk 1 (VX D (w D) (I (j+1)) λ_ _ _=>False) .normal E h' n':=by intro h' n' E ex hf;have:=ex.1;refine⟨by omega,ex.2 _ (by omega),x.trans ex,⟨by omega,by rw[ex.2 _ (by omega)];exact Gt⟩,by omega,?_⟩;rw[hf];exact Dj.ext ex
  by_cases a:ts[j].op=3
  case neg=>
   refine ε<|σ U<|σ U<|ξ U (r.ld U _)<|aS U U<|γ U<|μ U (by simpa using a)<|μ U (by simpa using a)<|μ U (by simpa using a)<|μ U (by simpa using a)<|μ U (by simpa using a)<|μ U (by simpa using a)<|μ U (by simpa using a)<|μ U (by simpa using a)<|μ U (by simpa using a)<|aL U (by simpa using a) U<|δ ?_;exact ae U U<|Ω (done (Ext.refl _ _) (by rw[uT v,Θ (by simp[a])]))
  have J:=u.trans x;have Tg:=ht.ext (x2.trans J);by_cases L:binds ts j ts[j].name<0
  case neg=>
   refine ε<|σ U<|σ U<|ξ U (r.ld U _)<|aS U U<|γ U<|ζ U (by simpa using a)<|ξ U ((F.ext J).ld U _)<|ζ U (by simpa using a)<|ξ U ((cu.ext x).ld U _)<|ζ U (by simpa using a)<|σ U<|ζ U (by simpa using a)<|ξ U (r.ld U _)<|ζ U (by simpa using a)<|σ U<|ζ U (by simpa using a)<|σ U<|ζ U (by simpa using a)<|ξ U (r.ld U _)<|ζ U (by simpa using a)<|ψ U U<|Ck A Tg hb (iu5.ext x) T v <| λgk tQ y=>ζ U (by simpa using a)<|ay U U<|aU U (by simpa using a) U<|δ ?_;exact ae U (by simpa using L)<|Ω (done y (by rw[uT v,Θ (by simp[L])]))
  refine ε<|σ U<|σ U<|ξ U (r.ld U _)<|aS U U<|γ U<|ζ U (by simpa using a)<|ξ U ((F.ext J).ld U _)<|ζ U (by simpa using a)<|ξ U ((cu.ext x).ld U _)<|ζ U (by simpa using a)<|σ U<|ζ U (by simpa using a)<|ξ U (r.ld U _)<|ζ U (by simpa using a)<|σ U<|ζ U (by simpa using a)<|σ U<|ζ U (by simpa using a)<|ξ U (r.ld U _)<|ζ U (by simpa using a)<|ψ U U<|Ck A Tg hb (iu5.ext x) T v <| λgk tQ y=>ζ U (by simpa using a)<|ay U U<|aU U (by simpa using a) U<|δ ?_;refine ah U (by simpa using L) ?_;have z12:=y.1;refine ε<|ξ U ((cl.ext (J.trans y)).ld U _)<|σ U<|σ U<|ξ U ((r.ext y).ld U _)<|ψ U U<|Xa A (hl.ext ((x2.trans J).trans y)) (by omega) <| λs mm mY vF iD im=>γ U<|bF U U<|bF U U<|bA <| λtt B5 arN C4 oV=>aH U U C4 (cj (l:=[.s 0 0,.ns]) (cs:=[st s,mm]) U U (by simp only[aD,im.one];rfl)) <| λom Km S=>γ U<|δ ?_;have z13:=iD.1;have S:bm vF tt om:=S;have z:Ext w H om B5:=((y.trans iD).trans oV).ab S (by omega);refine ε<|γ U<|δ ?_;cases hf:my ts[j].name l with
  | none=>exact ae U U<|Ω (done z (by rw[uT v,ao ⟨a,L⟩,hf]))
  | some d=>
   rw[hf]at im;obtain⟨ms,xD⟩:=(show aZ mY vF mm d from im).sl;have eS:d.length<100000:=by obtain⟨p,h1,h2⟩:=Cm hf;rw[←h2];exact eH p h1
   have zP:=KT (ts:=ts) eH j;refine ah U U ?_;have jK:Ext mY vF om B5:=oV.ab S (φ _);refine aA<|ξ U ((Dj.ext z).ld U _)<|σ U<|ξ U (cE Km rfl _)<|al U (xD.ext jK)<|gG U U ⟨by omega,by omega⟩<|aX U U ⟨by omega,by omega⟩<|aH U U ((Dj.ext z).2) U <| λKV Xb Xc=>δ ?_;have Xb:KV k=some (.c [.i .i64 (mz ts l j+((d.length:Int) - 1))] 3 0):=Xb;have z15:=z.1;refine⟨by omega,by rw[Xc _ (by omega),z.2 _ (by omega)],(x.trans z).ab Xc (φ _),⟨by omega,by rw[Xc _ (by omega),z.2 _ (by omega)];exact Gt⟩,by omega,⟨by omega,?_⟩⟩;rw[Xb,uT v,ao ⟨a,L⟩,hf];simp only[Int.add_sub_assoc]
 ·rintro h' n' jZ ⟨g1,_,N,q⟩;rw[pD]at q;refine ε<|ξ U (q.ld U _)<|γ U<|δ (Γ ⟨_,rfl,hQ _ _ ((x2.trans u).trans g1)⟩)
 ·rintro ex h' n' h2 jl hf;exact hf.elim
end
section
variable {C:Nat->Option aI}{h:Hf}{n:K}{Q:V->Hf->K->Prop}
def w52(c:fh C){t vl:V}{ts:List Nd}{l:List Bi}(ht:aZ h n t ts)(hl:dZ h n vl l)(hb:Bd ts)(u:∀j,j<ts.length->ord ts j=true)(v:∀p∈l,p.2.length<100000)(x:l.length<1000000)
 (y:∀h' n',Ext h n h' n'->Q (.i .i64 (KS ts l)) h' n'):ν C (.f 52 [] []) [t,vl] h n Q:=by
 have hlen:=hb.len;refine ν.go c.f52 U ?_;refine ε<|γ U<|δ ?_;refine ε<|γ U<|ψ U U<|S8 c ht (by omega) hb.gw u <| λw h1 n1 e z=>γ U<|δ ?_;have g:=ht.ext e;have m:=hl.ext e;obtain⟨cs,hs⟩:=g.sl;obtain⟨ls,A⟩:=m.sl;refine ε<|γ U<|al U hs<|γ U<|δ ?_;refine θ<|ε<|γ U<|δ ?_;have loop:∀(r i:Nat),ts.length - i=r->i<=ts.length->WC C Qo [(k0,t),(k1,vl),(k5,w),(k6,.i .i64 (mz ts l i)),(k7,iN i)] h1 n1 (blk 0 (sq C Qq (fq [.t k4] Q))):=by
  intro r
  induction r with
  | zero=>
   intro i B hi;have:i=ts.length:=by omega
   subst this;refine ax ?_;refine θ<|ε<|γ U<|γ U<|al U hs<|ay U U<|δ ?_;refine ae U (by simp)<|aJ ?_;refine ε<|γ U<|γ U<|δ (Γ ⟨_,rfl,y h1 n1 e⟩)
  | succ r ih=>
   intro i B hi;have a:i<ts.length:=by omega
   obtain⟨vv,kv,d⟩:=g.node a;have next:∀{E},ρ [(k0,t),(k1,vl),(k5,w),(k6,.i .i64 (mz ts l i)),(k7,iN i)] E->mz ts l (i+1)=mz ts l i->WC C ade E h1 n1 (sq C (.loop Qp) (blk 0 (sq C Qq (fq [.t k4] Q)))):=by intro E s hf;refine bS s ?_;refine aA<|γ U<|aX U U ⟨by omega,by omega⟩<|γ U<|δ ?_;refine χ (ih (i+1) (by omega) (by omega)) ⟨rfl,rfl,rfl,?_,rfl,trivial⟩;rw[hf];rfl
   refine ax ?_;refine θ<|ε<|γ U<|γ U<|al U hs<|ay U U<|δ ?_;refine ah U (by simp;omega)<|Ω ?_;by_cases b:ts[i].op=3
   case neg=>
    refine θ<|aj<|θ<|ε<|γ U<|γ U<|aB U U hs a<|σ U<|ξ U (d.op _)<|dR U U<|δ ?_;exact ah U (by simp[b])<|aJ (next (ρ.rf U) (by rw[uT a,Θ (by simp[b])]))
   refine θ<|aj<|θ<|ε<|γ U<|γ U<|aB U U hs a<|σ U<|ξ U (d.op _)<|dR U U<|δ ?_;refine ae U (by simp[b])<|Ω ?_;refine ε<|γ U<|γ U<|γ U<|γ U<|γ U<|aB U U hs a<|σ U<|ξ U (d.name _)<|ψ U U<|Td c g hb z u a <| λs=>γ U<|bF U U<|bF U U<|γ U<|γ U<|δ ?_;refine ε<|γ U<|bZ U<|δ ?_;by_cases o:binds ts i ts[i].name<0
   case neg=>exact ae U (by simp;omega)<|Ω (next (ρ.rf U) (by rw[uT a,Θ (by simp[o])]))
   refine ah U (by simp;omega) ?_;refine ε<|γ U<|γ U<|γ U<|aB U U hs a<|σ U<|ξ U (d.name _)<|ψ U U<|W9 c m x<|γ U<|δ ?_;refine ε<|γ U<|dj U U<|δ ?_;rcases Fl ts[i].name l 0 with ⟨h2,hf⟩ | ⟨k,h2,q,hf⟩
   ·rw[h2];exact ae U (by simp)<|Ω (next (ρ.rf U) (by rw[uT a,ao ⟨b,o⟩,hf]))
   ·rw[h2,eW];obtain⟨mm,D,F⟩:=m.at q;obtain⟨ms,G⟩:=F.sl;have H:=v _ (bK q);have I:=KT (ts:=ts) v i;refine ah U (by simp) ?_;refine aA<|γ U<|γ U<|γ U<|aB U U A q<|σ U<|ξ U (ka D rfl)<|al U G<|aX U U ⟨by omega,by omega⟩<|gG U U ⟨by omega,by omega⟩<|γ U<|δ ?_;refine aA<|γ U<|aX U U ⟨by omega,by omega⟩<|γ U<|δ ?_;refine χ (ih (i+1) (by omega) (by omega)) ⟨rfl,rfl,rfl,?_,rfl,trivial⟩;rw[uT a,ao ⟨b,o⟩,hf];rfl
 exact aj<|χ (loop _ 0 rfl (by omega)) (ρ.rf U)
def nh(name sort:S):List Nd:=[⟨3,sort,name,[],[]⟩]
def w27{g:Nat}(a:C g=some (.go f27)){name sort:S}(d:∀b h' n',Ext h n h' n'->n.num<=b.num->b.num<n'.num->h' b=some (.c [.i .i64 3,st sort,st name,.ns,.ns] 87 0)->Q (.sl b 0 1 1) h' n'):ν C (.f g [] []) [st name,st sort] h n Q:=by refine ν.go a rfl ?_;refine ε<|γ U<|δ ?_;refine ε<|γ U<|γ U<|ji U<|eg U <| λh1 n1 k e j=>γ U<|δ (Γ ⟨_,rfl,d n h1 n1 j (φ _) (by omega) e⟩)
def Wh.low{lo c hi:K}{w:V}{x:List (List Nd)}(a:Wh h lo hi w x)(e:c.num<=lo.num):Wh h c hi w x:=λg d=>a g λb b1 b2=>d b (by omega) b2
def Th{g:Nat}(y:C g=some (.go f197)){v l:V}{cs:List V}{len:Nat}{of:Nat->List Nd}(hv:κ h n 1 v len cs)(hlen:len<1000000)
 (hf:∀i w h' n' {Q':V->Hf->K->Prop},i<len->nth cs i=some w->Ext h n h' n'->(∀d h2 e,Ext h' n' h2 e->TG h2 n' e d (of i)->Q' d h2 e)->ν C l [w] h' n' Q')
 (z:∀v' h' n',Ext h n h' n'->Wh h' n n' v' ((List.range len).map of)->Q v' h' n'):ν C (.f g [] []) [v,l] h n Q:=by
 refine ν.go y rfl ?_;refine ε<|γ U<|δ ?_;refine ε<|γ U<|δ ?_;refine θ<|ε<|γ U<|al U hv<|γ U<|δ ?_;have loop:∀(r i:Nat) (w:V) (us:List V) (h':Hf) (n':K),len - i=r->i<=len->tR h n h' n' w ((List.range i).map of) us->Ch n h' w ((List.range i).map of) us->WC C ac1 [(k1,l),(k5,w),(k8,v),(k9,iN len),(qg,iN i)] h' n' (blk 0 (sq C ac2 (fq [.t k4] Q))):=by
  intro r
  induction r with
  | zero=>
   intro i w us h' n' A hi g b;have:i=len:=by omega
   subst this;refine ax ?_;refine ε<|ay U U<|δ ?_;refine θ<|ae U (by simp)<|aJ ?_;refine ε<|γ U<|γ U<|δ (Γ ⟨_,rfl,z w h' n' g.2.1.ext (Ch.wh g b)⟩)
  | succ r ih=>
   intro i w us h' n' A hi g b;have o:i<len:=by omega
   have a:=g.2.1;have p:((List.range i).map of).length=i:=by simp
   rw[p]at a;have N:cs.length=len*1:=hv.1;have q:nth cs i=some (cs[i]'(by omega)):=J6 (by omega);refine ax ?_;refine ε<|ay U U<|δ ?_;refine θ<|ah U (by simp;omega)<|Ω ?_;refine θ<|aj<|ε<|aB U U (hv.ext a.ext) o<|ξ U (by have:=(hv.ext a.ext).get q 1;rw[jz];exact this)<|γ U<|δ ?_;refine aA<|γ U<|γ U<|γ U<|ψ U U<|hf i _ _ _ o q a.ext <| λd h2 e k tg=>eg (mW rfl tg.t.cells tg.t.one) <| λO B P D c=>jF U (((a.on k).on c).own) U (κ.whole (len:=1) (by omega) D rfl) (by omega) (by omega) (by omega) (by omega) (by simp only[aD,tg.t.one];rfl) (((a.on k).on c).lt) <| λE s F o4 u G m=>γ U<|δ ?_;have H:=a.lt;have I:=c.1;have J:=a.ext.1;have x:=(TG.skip (h':=s) (n':=B) tg (λb R L=>by rw[m b (by omega) (H.imp id λh=>by omega),c.2 b L]) I).low J;have M:=g.app (k.trans c) x.t (by rw[p];exact o4) u G m;have b4:=Ch.app g b (k.trans c) x u m;refine aA<|aX U U ⟨by omega,by omega⟩<|γ U<|δ ?_;refine χ (ih (i+1) E (us++[d]) s F (by omega) (by omega) ?_ ?_) (ρ.rf U)
   ·rw[List.range_succ,List.map_append];exact M
   ·rw[List.range_succ,List.map_append];exact b4
 exact aj<|χ (loop _ 0 .ns [] h n rfl (by omega) (tR.nil (Ext.refl _ _)) (λj g=>by simp at g)) (ρ.rf U)
def akw(a:fh C){t:V}{ts:List Nd}(ht:aZ h n t ts)(hb:Bd ts)(h0:0<ts.length)(k:∀j,j<ts.length->ord ts j=true)
 (s:∀v' h' n',Ext h n h' n'->Wh h' n n' v' (parts ts)->Q v' h' n'):ν C (.f 120 [] []) [t] h n Q:=by
 have hlen:=hb.len;have d:ts.length - 1<ts.length:=by omega
 refine ν.go a.f120 U ?_;refine ε<|cR U ht.cells (by simp only[aD,ht.one];rfl) <| λh1 n1 G u e=>γ U<|δ ?_;have l:Cl h1 n1 n [t] 23:=⟨by omega,u⟩;obtain⟨m,tm⟩:=ht.ext e;have v:=yG d (k _ d);have x:=hb.gw _ d;refine ε<|ξ U (l.ld U _)<|ψ U U<|w61 a.toCd tm (by omega) h0 <| λh2 H vv kv b _ _ y=>sI U U<|rC U U<|ψ U U<|Th a.f197 (of:=λi=>part ts ((ts[ts.length - 1].kids.getD i 0).toNat)) (da.ext y b) x (λi w o p Q' hi c g q=>?_) <| λz o p g l3=>γ U<|δ (Γ ⟨_,rfl,s z o p ((e.trans b).trans g) ?_⟩)
 ·rw[D7 _ hi]at c;injection c with c;have:=v _ (bK hi);obtain⟨k',r⟩:∃k':Nat,ts[ts.length - 1].kids[i]=(k':Int):=⟨ts[ts.length - 1].kids[i].toNat,by omega⟩;have A:ts[ts.length - 1].kids.getD i 0=(k':Int):=by rw[dH,df hi];exact r
  rw[r]at c;simp only[A,Int.toNat_natCast]at q;subst c;refine ν.go a.f198 U ?_;refine ε<|γ U<|δ ?_;refine ε<|ξ U ((l.ext (b.trans g)).ld U _)<|γ U<|ψ U U<|w69 a.toCd (ht.ext ((e.trans b).trans g)) hb (i:=k') (by omega) k <| λB D E F tg=>γ U<|δ (Γ ⟨_,rfl,q B D E F tg⟩)
 ·have:parts ts=(List.range ts[ts.length - 1].kids.length).map λi=>part ts ((ts[ts.length - 1].kids.getD i 0).toNat):=by
   unfold parts;rw[jj d];apply vO (by simp);intro j h1 h2;have hj:j<ts[ts.length - 1].kids.length:=by simpa using h1
   simp only[List.getElem_map,List.getElem_range,dH,df hj,Option.getD_some]
  rw[this];exact l3.low ((e.trans b).1)
end
section
variable {C:Nat->Option aI}{h:Hf}{n:K}{Q:V->Hf->K->Prop}
def Fm{α:Type}(p:α->Bool)(l:List α)(r:Int):Prop:=(r = -1/\∀x∈l,p x=false)\/∃k,∃a:k<l.length,r=(k:Int)/\p l[k]=true/\∀x∈l.take k,p x=false
def Fm.any{α:Type}{p:α->Bool}{l:List α}{r:Int}(a:Fm p l r):decide (0<=r)=l.any p:=by
 rcases a with ⟨rfl,h⟩ | ⟨k,b,rfl,h,_⟩
 ·rw[eK (by omega)];symm;rw[List.any_eq_false];intro x c;rw[h x c];decide
 ·rw[nE (by omega)];symm;rw[List.any_eq_true];exact⟨_,bK b,h⟩
def Ti{g:Nat}(u:C g=some (.go f199)){v k:V}{l:List Bi}{p:Bi->Bool}(hv:dZ h n v l)(hlen:l.length<1000000)
 (hf:∀x m h' n' {Q':V->Hf->K->Prop},x∈l->aZ h' n' m x.2->Ext h n h' n'->(∀h2 c,Ext h' n' h2 c->Q' (.b (p x)) h2 c)->ν C k [.a [st x.1,m]] h' n' Q')
 (o:∀r h' n',Ext h n h' n'->Fm p l r->Q (.i .i64 r) h' n'):ν C (.f g [] []) [v,k] h n Q:=by
 refine ν.go u rfl ?_;obtain⟨cs,hs⟩:=hv.sl;refine ε<|γ U<|δ ?_;refine θ<|ε<|γ U<|al U hs<|γ U<|δ ?_;have loop:∀(r i:Nat) (h':Hf) (n':K),l.length - i=r->i<=l.length->Ext h n h' n'->(∀x∈l.take i,p x=false)->WC C ac5 [(k0,v),(k1,k),(k7,iN l.length),(k8,iN i)] h' n' (blk 0 (sq C ac6 (fq [.t k4] Q))):=by
  intro r
  induction r with
  | zero=>
   intro i h' n' w hi e hp;have:i=l.length:=by omega
   subst this;rw[eN]at hp;refine ax ?_;refine ε<|ay U U<|δ ?_;refine θ<|ae U (by simp)<|aJ ?_;refine ε<|γ U<|δ (Γ ⟨_,rfl,o (-1) h' n' e (Or.inl ⟨rfl,hp⟩)⟩)
  | succ r ih=>
   intro i h' n' w hi e hp;have d:i<l.length:=by omega
   obtain⟨m,y,tm⟩:=(hv.ext e).at d;refine ax ?_;refine ε<|ay U U<|δ ?_;refine θ<|ah U (by simp;omega)<|Ω ?_;refine θ<|aj<|ε<|γ U<|γ U<|δ ?_;refine ε<|γ U<|γ U<|γ U<|aB U U (hs.ext e) d<|ξ U y<|ψ U U<|hf l[i] m _ _ (bK d) tm e <| λh2 c q=>δ ?_;by_cases j:p l[i]=true
   ·refine ah U j ?_;refine ε<|γ U<|γ U<|δ (Γ ⟨_,rfl,o i h2 c (e.trans q) (Or.inr ⟨i,d,rfl,j,hp⟩)⟩)
   ·refine ae U (by simpa using j)<|Ω ?_;refine aA<|aX U U ⟨by omega,by omega⟩<|γ U<|δ ?_;refine χ (ih (i+1) h2 c (by omega) (by omega) (e.trans q) ?_) (ρ.rf U);intro x s;rw[fL d]at s;rcases gQ.1 s with g | g
    ·exact hp x g
    ·rw[iZ]at g;subst g;simpa using j
 exact aj<|χ (loop _ 0 h n rfl (by omega) (Ext.refl _ _) (by simp)) (ρ.rf U)
def akx(c:fh C){v d:V}{l:List Bi}{p:Bi->Bool}(hv:dZ h n v l)(hlen:l.length<1000000)
 (hf:∀x m h' n' {Q':V->Hf->K->Prop},x∈l->aZ h' n' m x.2->Ext h n h' n'->(∀h2 e,Ext h' n' h2 e->Q' (.b (p x)) h2 e)->ν C d [.a [st x.1,m]] h' n' Q')
 (g:∀h' n',Ext h n h' n'->Q (.b (l.any p)) h' n'):ν C (.f 200 [] []) [v,d] h n Q:=by
 refine ν.go c.f200 U ?_;refine ε<|γ U<|δ ?_;refine ε<|γ U<|γ U<|ψ U U<|Ti c.f199 hv hlen hf <| λr h1 n1 i j=>dj U U<|γ U<|δ (Γ ⟨_,rfl,?_⟩);rw[j.any];exact g h1 n1 i
def aky{g:Nat}(s:C g=some (.go f202)){v j:V}{l:List (List Nd)}{p:List Nd->Bool}(hv:iS h n v l)(hlen:l.length<1000000)
 (hf:∀x m h' n' {Q':V->Hf->K->Prop},x∈l->aZ h' n' m x->Ext h n h' n'->(∀h2 a,Ext h' n' h2 a->Q' (.b (p x)) h2 a)->ν C j [m] h' n' Q')
 (k:∀r h' n',Ext h n h' n'->Fm p l r->Q (.i .i64 r) h' n'):ν C (.f g [] []) [v,j] h n Q:=by
 refine ν.go s rfl ?_;obtain⟨cs,hs⟩:=hv.sl;refine ε<|γ U<|δ ?_;refine θ<|ε<|γ U<|al U hs<|γ U<|δ ?_;have loop:∀(r i:Nat) (h':Hf) (n':K),l.length - i=r->i<=l.length->Ext h n h' n'->(∀x∈l.take i,p x=false)->WC C ac7 [(k0,v),(k1,j),(k7,iN l.length),(k8,iN i)] h' n' (blk 0 (sq C ac8 (fq [.t k4] Q))):=by
  intro r
  induction r with
  | zero=>
   intro i h' n' u hi e hp;have:i=l.length:=by omega
   subst this;rw[eN]at hp;refine ax ?_;refine ε<|ay U U<|δ ?_;refine θ<|ae U (by simp)<|aJ ?_;refine ε<|γ U<|δ (Γ ⟨_,rfl,k (-1) h' n' e (Or.inl ⟨rfl,hp⟩)⟩)
  | succ r ih=>
   intro i h' n' u hi e hp;have c:i<l.length:=by omega
   obtain⟨m,w,tm⟩:=(hv.ext e).get c;refine ax ?_;refine ε<|ay U U<|δ ?_;refine θ<|ah U (by simp;omega)<|Ω ?_;refine θ<|aj<|ε<|γ U<|γ U<|δ ?_;refine ε<|γ U<|γ U<|γ U<|aB U U (hs.ext e) c<|ξ U w<|ψ U U<|hf l[i] m _ _ (bK c) tm e <| λh2 a o=>δ ?_;by_cases d:p l[i]=true
   ·refine ah U d ?_;refine ε<|γ U<|γ U<|δ (Γ ⟨_,rfl,k i h2 a (e.trans o) (Or.inr ⟨i,c,rfl,d,hp⟩)⟩)
   ·refine ae U (by simpa using d)<|Ω ?_;refine aA<|aX U U ⟨by omega,by omega⟩<|γ U<|δ ?_;refine χ (ih (i+1) h2 a (by omega) (by omega) (e.trans o) ?_) (ρ.rf U);intro x q;rw[fL c]at q;rcases gQ.1 q with g | g
    ·exact hp x g
    ·rw[iZ]at g;subst g;simpa using d
 exact aj<|χ (loop _ 0 h n rfl (by omega) (Ext.refl _ _) (by simp)) (ρ.rf U)
def akz(a:fh C){v c:V}{l:List (List Nd)}{p:List Nd->Bool}(hv:iS h n v l)(hlen:l.length<1000000)
 (hf:∀x m h' n' {Q':V->Hf->K->Prop},x∈l->aZ h' n' m x->Ext h n h' n'->(∀h2 d,Ext h' n' h2 d->Q' (.b (p x)) h2 d)->ν C c [m] h' n' Q')
 (e:∀h' n',Ext h n h' n'->Q (.b (l.any p)) h' n'):ν C (.f 126 [] []) [v,c] h n Q:=by
 refine ν.go a.f126 U ?_;refine ε<|γ U<|δ ?_;refine ε<|γ U<|γ U<|ψ U U<|aky a.f202 hv hlen hf <| λr h1 n1 g i=>dj U U<|γ U<|δ (Γ ⟨_,rfl,?_⟩);rw[i.any];exact e h1 n1 g
def lZ(name:S)(ts:List Nd):Bool:=decide (name∈(zM ts).map Prod.fst)
def nj(name:S)(l:List Bi):Bool:=l.any λb=>lZ name b.2
def rL(name:S)(l:List (List Nd)):Bool:=l.any (lZ name)
def xb{ts:List Nd}(g:Rt ts):(zM ts).length<1000000:=by have:=Fk ts ts.length;have:=g.bd.len;unfold zM;omega
def Fo(a:fh C){v:V}{l:List Bi}{name:S}(hv:dZ h n v l)(hlen:l.length<1000000)(r:∀x∈l,Rt x.2)(s:∀h' n',Ext h n h' n'->Q (.b (nj name l)) h' n'):ν C (.f 125 [] []) [v,st name] h n Q:=by
 refine ν.go a.f125 U ?_;refine ε<|cR U U U <| λh1 n1 G t j=>γ U<|δ ?_;have u:Cl h1 n1 n [st name] 9:=⟨by omega,t⟩;refine ε<|γ U<|rC U U<|ψ U U<|akx a (p:=λb=>lZ name b.2) (hv.ext j) hlen (λx m h2 k Q' w tm d y=>?_) <| λh2 k d=>γ U<|δ (Γ ⟨_,rfl,s h2 k (j.trans d)⟩);have c:=r x w;refine ν.go a.f201 U ?_;have z:aD [st x.1,m]=true:=by simp only[aD,tm.one];rfl
 refine ε<|cR U U z <| λH I J A e=>γ U<|δ ?_;have o:=tm.ext e;have g:=u.ext (d.trans e);obtain⟨ms,q⟩:=o.sl;refine cX<|bG U<|aC U (cE A rfl _) (κ.below q (φ _)) (κ.cH q)<|aY U U<|MO a o c.bd c.pos c.ord <| λL M N i B _=>aC U ((g.ext i).ld U _) U (fg _ _)<|aY U U<|sU a.toCd B (xb c) <| λD E F=>ak U<|bU (⟨⟨ω (by simp[Nat.testBit]),bH (g.ld U _) ((g.ext i).ld U _),trivial⟩,⟨ω (by simp[Nat.testBit]),ω (by simp[Nat.testBit]),trivial⟩,trivial⟩) ?_;exact Γ ⟨_,rfl,y D E ((e.trans i).trans F)⟩
def akA(c:fh C){m:V}{x:List Nd}{name:S}{b:K}(tm:aZ h n m x)(a:Rt x)(d:Cl h n b [st name] 9)(g:∀h' n',Ext h n h' n'->Q (.b (lZ name x)) h' n'):ν C (.f 127 [] [.p b 0]) [m] h n Q:=by refine ν.go c.f127 U ?_;refine ε<|γ U<|δ ?_;refine cX<|ak U<|aY U U<|MO c tm a.bd a.pos a.ord <| λo q r e i _=>aC U ((d.ext e).ld U _) U (fg _ _)<|aY U U<|sU c.toCd i (xb a) <| λj k l=>ak U<|bU (⟨⟨ω (by simp[Nat.testBit]),bH (d.ld U _) ((d.ext e).ld U _),trivial⟩,trivial⟩) ?_;exact Γ ⟨_,rfl,g j k (e.trans l)⟩
end
section
variable {C:Nat->Option aI}{h:Hf}{n:K}{Q:V->Hf->K->Prop}
def yN(name:S)(ts:List Nd):decide (0<=iP name (zM ts) 0)=lZ name ts:=Bu name _ 0
def Fp(d:fh C){v:V}{l:List Bi}{name:S}(hv:dZ h n v l)(hlen:l.length<1000000)(p:∀x∈l,Rt x.2)(j:∀h' n',Ext h n h' n'->Q (.b (nj name l)) h' n'):ν C (.f 133 [] []) [v,st name] h n Q:=by
 refine ν.go d.f133 U ?_;obtain⟨cs,hs⟩:=hv.sl;refine ε<|γ U<|δ ?_;refine θ<|ε<|γ U<|δ ?_;have loop:∀(r i:Nat) (h':Hf) (n':K),l.length - i=r->i<=l.length->Ext h n h' n'->nj name l=nj name (l.drop i)->WC C adk [(k0,v),(k1,st name),(k5,iN i)] h' n' (blk 0 (sq C adl (fq [.t k4] Q))):=by
  intro r
  induction r with
  | zero=>
   intro i h' n' q hi e hm;have:i=l.length:=by omega
   subst this;rw[jw]at hm;refine ax ?_;refine θ<|ε<|γ U<|γ U<|al U (hs.ext e)<|ay U U<|δ ?_;refine ae U (by simp)<|aJ ?_;refine ε<|γ U<|δ (Γ ⟨_,rfl,by have:=j h' n' e;rw[hm]at this;exact this⟩)
  | succ r ih=>
   intro i h' n' q hi e hm;have c:i<l.length:=by omega
   obtain⟨m,s,tm⟩:=(hv.ext e).at c;have g:=p _ (bK c);have u:nj name (l.drop i)=(lZ name l[i].2||nj name (l.drop (i+1))):=by rw[eo c];rfl
   rw[u]at hm;refine ax ?_;refine θ<|ε<|γ U<|γ U<|al U (hs.ext e)<|ay U U<|δ ?_;refine ah U (by simp;omega)<|Ω ?_;refine θ<|aj<|ε<|γ U<|γ U<|aB U U (hs.ext e) c<|σ U<|ξ U (ka s rfl)<|ψ U U<|MQ d tm g.bd g.ord <| λy h2 k o w=>γ U<|ψ U U<|uK d.toCd w (xb g)<|dj U U<|δ ?_;by_cases a:lZ name l[i].2=true
   ·refine ah U (by rw[yN];exact a) ?_;rw[a]at hm;refine ε<|γ U<|δ (Γ ⟨_,rfl,by have:=j h2 k (e.trans o);rw[hm]at this;exact this⟩)
   ·simp only[nG]at a;refine ae U (by rw[yN];exact a)<|Ω ?_;rw[a,Bool.false_or]at hm;refine aA<|γ U<|aX U U ⟨by omega,by omega⟩<|γ U<|δ ?_;exact χ (ih (i+1) h2 k (by omega) (by omega) (e.trans o) hm) (ρ.rf U)
 exact aj<|χ (loop _ 0 h n rfl (by omega) (Ext.refl _ _) U) (ρ.rf U)
def Tj(c:fh C){t:V}{ts:List Nd}{name:S}(ht:aZ h n t ts)(gt:Rt ts)(p:∀x∈parts ts,Rt x)(w:(parts ts).length<1000000)(j:∀h' n',Ext h n h' n'->Q (.b (rL name (parts ts))) h' n'):ν C (.f 134 [] []) [t,st name] h n Q:=by
 refine ν.go c.f134 U ?_;refine ε<|γ U<|δ ?_;refine ε<|γ U<|ψ U U<|Sb c.toCd ht gt.bd gt.pos gt.ord <| λvl h1 n1 k hv=>γ U<|δ ?_;obtain⟨cs,hs⟩:=hv.sl;refine θ<|ε<|γ U<|δ ?_;have loop:∀(r i:Nat) (h':Hf) (n':K),(parts ts).length - i=r->i<=(parts ts).length->Ext h1 n1 h' n'->rL name (parts ts)=rL name ((parts ts).drop i)->WC C adm [(k1,st name),(k5,vl),(k6,iN i)] h' n' (blk 0 (sq C adn (fq [.t k4] Q))):=by
  intro r
  induction r with
  | zero=>
   intro i h' n' q hi e hm;have:i=(parts ts).length:=by omega
   subst this;rw[jw]at hm;refine ax ?_;refine θ<|ε<|γ U<|γ U<|al U (hs.ext e)<|ay U U<|δ ?_;refine ae U (by simp)<|aJ ?_;refine ε<|γ U<|δ (Γ ⟨_,rfl,by have:=j h' n' (k.trans e);rw[hm]at this;exact this⟩)
  | succ r ih=>
   intro i h' n' q hi e hm;have d:i<(parts ts).length:=by omega
   obtain⟨m,s,tm⟩:=(hv.ext e).get d;have g:=p _ (bK d);have u:rL name ((parts ts).drop i)=(lZ name (parts ts)[i]||rL name ((parts ts).drop (i+1))):=by rw[eo d];rfl
   rw[u]at hm;refine ax ?_;refine θ<|ε<|γ U<|γ U<|al U (hs.ext e)<|ay U U<|δ ?_;refine ah U (by simp;omega)<|Ω ?_;refine θ<|aj<|ε<|γ U<|γ U<|aB U U (hs.ext e) d<|ξ U s<|ψ U U<|MQ c tm g.bd g.ord <| λy h2 l o v=>γ U<|ψ U U<|uK c.toCd v (xb g)<|dj U U<|δ ?_;by_cases a:lZ name (parts ts)[i]=true
   ·refine ah U (by rw[yN];exact a) ?_;rw[a]at hm;refine ε<|γ U<|δ (Γ ⟨_,rfl,by have:=j h2 l ((k.trans e).trans o);rw[hm]at this;exact this⟩)
   ·simp only[nG]at a;refine ae U (by rw[yN];exact a)<|Ω ?_;rw[a,Bool.false_or]at hm;refine aA<|γ U<|aX U U ⟨by omega,by omega⟩<|γ U<|δ ?_;exact χ (ih (i+1) h2 l (by omega) (by omega) (e.trans o) hm) (ρ.rf U)
 exact aj<|χ (loop _ 0 h1 n1 rfl (by omega) (Ext.refl _ _) U) (ρ.rf U)
def cZ(ts:List Nd)(l:List Bi):List Bi:=l.filter λb=>lZ b.1 ts
def Tk{l:List Bi}{ms:List V}(hm:ms.length=l.length){x:Bi}{m:V}:iE (l++[x]) (ms++[m])=iE l ms++[st x.1,m]:=by rw[KQ hm];rfl
def KW{E:Env}{k:K}{a b x y:V}(h1:lk E k=some (.a [x,y]))(c:aD [x,y]=true):gq E [a,b] [(0,2,.t k)]=some [x,y]:=by simp only[gq,ge,h1,V.cells,dy,jy,c,cL,over];rfl
def akB(s:fh C){t vl:V}{ts:List Nd}{l:List Bi}(ht:aZ h n t ts)(gt:Rt ts){e:Hf}{o:K}(u:dZ e o vl l)(x:Ext e o h n)(hlen:l.length<1000000)(E:∀v' h' n',Ext h n h' n'->(∃ms:List V,∃hm:ms.length=(cZ ts l).length,κ h' n' 2 v' (cZ ts l).length (iE (cZ ts l) ms)/\(v'=.ns\/n.num<=v'.blk.num)/\∀i (hi:i<(cZ ts l).length),aZ e o (ms[i]'(by omega)) (cZ ts l)[i].2)->Q v' h' n'):ν C (.f 132 [] []) [t,vl] h n Q:=by
 have hv:=u.ext x;obtain⟨Y,F⟩:=u.sl;refine ν.go s.f132 U ?_;refine ε<|γ U<|δ ?_;refine ε<|γ U<|ψ U U<|MQ s ht gt.bd gt.ord <| λG h1 n1 p H=>γ U<|δ ?_;have y:=hv.ext p;obtain⟨cs,hs⟩:=y.sl;refine ε<|γ U<|δ ?_;refine θ<|ε<|γ U<|δ ?_;have loop:∀(r i:Nat) (vo:V) (ms:List V) (h':Hf) (n':K),l.length - i=r->i<=l.length->(hm:ms.length=(cZ ts (l.take i)).length)->Gr h1 n1 h' n' 39 2 vo (cZ ts (l.take i)).length (iE (cZ ts (l.take i)) ms)->(∀j (hj:j<(cZ ts (l.take i)).length),aZ e o (ms[j]'(by omega)) (cZ ts (l.take i))[j].2)->WC C adi [(k1,vl),(k5,G),(k6,vo),(k7,iN i)] h' n' (blk 0 (sq C adj (fq [.t k4] Q))):=by
  intro r
  induction r with
  | zero=>
   intro i vo ms h' n' I hi hm g hj;have:i=l.length:=by omega
   subst this;refine ax ?_;refine θ<|ε<|γ U<|γ U<|al U (hs.ext g.ext)<|ay U U<|δ ?_;refine ae U (by simp)<|aJ ?_;simp only[eN]at hm g hj;refine ε<|γ U<|γ U<|δ (Γ ⟨_,rfl,E vo h' n' (p.trans g.ext) ⟨ms,hm,g.sl,g.ge.imp id (λk=>by have:=p.1;omega),hj⟩⟩)
  | succ r ih=>
   intro i vo ms h' n' I hi hm g hj;have b:i<l.length:=by omega
   obtain⟨m,v,tm⟩:=(y.ext g.ext).at b;obtain⟨m1,J,L⟩:=u.at b;have M:m1=m:=by have q:=((x.trans p).trans g.ext).ld (F.pk (by omega)) true 2 (vl.off+i*2);rw[J,v]at q;injection q with q;injection q with q;injection q with _ q;injection q with q;exact q.symm
   subst M;have A:l.take (i+1)=l.take i++[l[i]]:=fL b;have Z:(cZ ts (l.take i)).length<=i:=dU (List.length_filter_le _ _) (by simp;omega);refine ax ?_;refine θ<|ε<|γ U<|γ U<|al U (hs.ext g.ext)<|ay U U<|δ ?_;refine ah U (by simp;omega)<|Ω ?_;refine θ<|aj<|ε<|γ U<|γ U<|γ U<|aB U U (hs.ext g.ext) b<|σ U<|ξ U (ka v rfl)<|ψ U U<|uK s.toCd (H.ext g.ext) (xb gt)<|dj U U<|δ ?_;by_cases c:lZ l[i].1 ts=true
   ·refine ah U (by rw[yN];exact c) ?_;have B:aD [st l[i].1,m1]=true:=by simp only[aD,tm.one];rfl
    have a:cZ ts (l.take (i+1))=cZ ts (l.take i)++[l[i]]:=by rw[A];unfold cZ;rw[List.filter_append];simp[c]
    refine aA<|γ U<|γ U<|γ U<|aB U U (hs.ext g.ext) b<|ξ U v<|eg (KW rfl B) <| λh3 n3 gJ N w=>jF U ((g.on w).own) U (κ.whole (len:=1) (z:=2) (by omega) N rfl) (by omega) (by omega) (by omega) (by omega) B ((g.on w).lt) <| λO P R o4 S T W=>γ U<|δ ?_;have X:=(g.on w).app o4 S T W;refine aA<|γ U<|aX U U ⟨by omega,by omega⟩<|γ U<|δ ?_;refine χ (ih (i+1) O (ms++[m1]) P R (by omega) (by omega) (by rw[a];simp[hm]) ?_ ?_) (ρ.rf U)
    ·rw[a,Tk hm,gp];exact X
    ·intro j d;simp only[a]at d ⊢;by_cases D:j<(cZ ts (l.take i)).length
     ·rw[List.getElem_append_left D,List.getElem_append_left (by omega)];exact hj j D
     ·have:j=(cZ ts (l.take i)).length:=by simp at d;omega
      subst this;rw[List.getElem_append_right (by omega),List.getElem_append_right (by omega)];simp only[hm,lL,nz];exact L
   ·simp only[nG]at c;refine ae U (by rw[yN];exact c)<|Ω ?_;have a:cZ ts (l.take (i+1))=cZ ts (l.take i):=by rw[A];unfold cZ;rw[List.filter_append];simp[c]
    refine aA<|γ U<|aX U U ⟨by omega,by omega⟩<|γ U<|δ ?_;refine χ (ih (i+1) vo ms h' n' (by omega) (by omega) (by rw[a];exact hm) (by rw[a];exact g) ?_) (ρ.rf U);intro j d;simp only[a]at d ⊢;exact hj j d
 exact aj<|χ (loop _ 0 .ns [] h1 n1 rfl (by omega) U (Gr.ns (Ext.refl _ _)) (λj hj=>by simp[cZ]at hj)) (ρ.rf U)
end
end Go.Ev.X
namespace Go.Ev.X
open Go Go.Ev
section
def Tl:∀{a b:List V},aD a=true->aD b=true->aD (a++b)=true
 | [],b,_,h=>h
 | v::a,b,h,g=>by simp only[aD,aK]at h;simp only[pc,aD,h.1,Tl h.2 g,hK]
def Tm{z:List V}(h:aD z=true):∀m,aD (dL z m)=true
 | 0=>rfl
 | m+1=>by simp only[dL];exact Tl h (Tm h m)
section
variable {C:Nat->Option aI}{E:Env}{h:Hf}{n:K}{q:Env->Hf->K->Prop}{l:List AO}{Ξ:Nat}{k:V->Hf->K->Prop}
def akC{z o len p:Nat}{x:au}{lo:Option au}{b:K}(c:ge E x=some (.su b o len z))(d:bd E 0 lo=some p)(h1:p<=len)(e:k (.su b (o+p*z) (len - p) z) h n):SO C (.sli (.sl z) x lo none none) E h n k:=
 eY (λ_ _ _ _=>rfl) (λT H a g=>by
  have f:=a.bd d;have b1:Nat.ble p len=true:=fK h1;have b2:Nat.ble len len=true:=fK (φ _);have b3:Nat.beq z z=true:=by rw[cB];simp
  simp only[simple,a.ge c,ly,f,sn,b1,b2,b3,hK,cond_true,cW];rfl) e
def akD{d:K}{z o len p:Nat}{x:au}{lo:Option au}{b:K}(a:ge E x=some (.su b o len z))(c:bd E 0 lo=some p)(h1:p<=len)(e:WO C l ((d,.su b (o+p*z) (len - p) z)::E) h n q):WO C (⟨some d,.sli (.sl z) x lo none none,none,Ξ⟩::l) E h n q:=cr (akC a c h1 e)
def akE{z bu:List V}{x:au}{b:K}{o len e t:Nat}(d:ge E x=some (.su b o len e))(hb:h b=some (.c bu t 0))(hl:o+(dL z len).length<=bu.length)(i:aD z=true)
 (f:∀h' new,h' b=some (.c new t 0)->new.length=bu.length->new.take o=bu.take o->bm b h h'->k (.u []) h' n):SO C (.FJ z x) E h n k:=
 pj (λ_ _ _ _=>rfl) λT H g a=>by
  have j:H.get b=some (.c bu t 0):=by rw[a];exact hb
  by_cases h0:len=0
  ·subst h0;refine⟨.u [],H,n,?_,by rw[a];exact f h bu hb rfl rfl (λ_ _=>rfl)⟩;simp only[simple,g.ge d];rfl
  ·have hp:=KK (vs:=dL z len) (o:=o) (l:=bu) hl;refine⟨.u [],H.put (some (.c (bu.take o++dL z len++bu.drop (o+(dL z len).length)) t 0)) b,n,?_,by rw[hY,a];exact f _ _ (eQ _ _ _) (by simp;omega) (by rw[pO,List.take_append_of_le_length (by simp;omega),List.take_take,Nat.min_self]) (jh _ _ _)⟩;have m:Nat.beq len 0=false:=by rw[cB];simp[h0]
   have p:fB H b o (dL z len)=some (H.put (some (.c (bu.take o++dL z len++bu.drop (o+(dL z len).length)) t 0)) b):=by simp only[fB,j,Nat.ble,Tm i,hK,cond_true,hp]
   simp only[simple,g.ge d,m,cond_false,p];rfl
def akF{z bu:List V}{x:au}{b:K}{o len e t:Nat}(a:ge E x=some (.su b o len e))(hb:h b=some (.c bu t 0))(hl:o+(dL z len).length<=bu.length)(d:aD z=true)
 (f:∀h' new,h' b=some (.c new t 0)->new.length=bu.length->new.take o=bu.take o->bm b h h'->WO C l E h' n q):WO C (⟨none,.FJ z x,none,Ξ⟩::l) E h n q:=cr (akE a hb hl d f)
end
end
end Go.Ev.X
namespace Go.Ev.X
open Go Go.Ev
attribute [local irreducible] WC WO WD SO ν
section
variable {C:Nat->Option aI}{h:Hf}{n:K}{Q:V->Hf->K->Prop}
def Tn(e:fh C){t:V}{len:Nat}{cs:List V}(hs:κ h n 2 t len cs)(hlen:len<1000000)
 (a:∀v' h' n',Ext h n h' n'->Ow h' n' 38 2 v' len cs->(v'=.ns\/n.num<=v'.blk.num)->Q v' h' n'):ν C (.f 122 [] []) [t] h n Q:=by
 refine ν.go e.f122 U ?_;refine ε<|γ U<|δ ?_;have go:j5 .eql (.one .slice) t .ns=some (.b false)->WC C ac3 [(k0,t)] h n (fq [.t k2] Q):=by intro hv;refine θ<|ε<|γ U<|nP U U hv<|δ ?_;refine ae U U<|Ω ?_;refine ε<|eg U <| λh1 n1 r i d=>γ U<|BM U (κ.whole (len:=0) (by omega) i rfl) U (hs.ext d) (by omega) (by omega) (by omega) <| λj k l o3 m p=>γ U<|δ ?_;exact Γ ⟨_,rfl,a j k l (d.trans m) o3 (p.imp id λh=>by rcases h with h | h<;>rw[h]<;>omega)⟩
 obtain⟨g1,q⟩:=id hs;rcases q with g | ⟨⟨b,o,c,g,_⟩,_⟩
 ·have hl:cs=[]:=nD.1 (by rw[g1,g.2]);rw[g.1];refine θ<|ε<|γ U<|nP U U U<|δ ?_;refine ah U U ?_;refine ε<|γ U<|δ ?_;exact Γ ⟨_,rfl,a .ns h n (Ext.refl h n) (Or.inl ⟨by rw[hl,g.2];exact ea.ns h 38 2,Or.inl U⟩) (Or.inl U)⟩
 ·refine χ (go ?_) (ρ.rf U);rcases g with g | g
  ·rw[g.1];rfl
  ·rw[g];rfl
def kG:List (S×V)->List V
 | []=>[]
 | p::l=>st p.1::p.2::kG l
def Cn:∀l:List (S×V),(kG l).length=l.length*2
 | []=>rfl
 | p::l=>by simp only[kG,dy,Cn l];omega
def To{a:S}{m:V}:∀{l:List (S×V)} {i:Nat},i<l.length->cL [st a,m] (kG l) (i*2)=some (kG (l.set i (a,m)))
 | [],i,h=>by simp at h
 | p::l,0,_=>by simp[kG,cL,over]
 | p::l,i+1,h=>by rw[show(i+1)*2=i*2+1+1 by omega];simp only[kG,cL,To (show i<l.length by simpa using h),ra]
def Tp:∀{l:List (S×V)} {i:Nat} (h:i<l.length),ch (kG l) (i*2) 2=some [st l[i].1,l[i].2]
 | [],i,h=>by simp at h
 | p::l,0,_=>by simp[kG,ch,lM,takeN]
 | p::l,i+1,h=>by have:=Tp (l:=l) (i:=i) (by simpa using h);rw[show(i+1)*2=i*2+1+1 by omega];unfold ch at this ⊢;simp only[kG,lM,pb];exact this
def Tq:∀(l:List (S×V)) (i:Nat),(kG l).take (i*2)=kG (l.take i)
 | [],i=>by simp[kG]
 | p::l,0=>rfl
 | p::l,i+1=>by rw[show(i+1)*2=i*2+2 by omega];simp only[kG,mD,Tq l i]
def gz(z:Bi×V):S×V:=(z.1.1,z.2)
def Ts:∀{l:List Bi} {ms:List V},ms.length=l.length->iE l ms=kG ((l.zip ms).map gz)
 | [],[],_=>rfl
 | [],_::_,h=>by simp at h
 | _::_,[],h=>by simp at h
 | x::l,m::ms,h=>by simp only[iE,List.zip_cons_cons,gB,kG,gz,Ts (show ms.length=l.length by simpa using h)]
def Tt:∀(Z:List (Bi×V)),iE (Z.map Prod.fst) (Z.map Prod.snd)=kG (Z.map gz)
 | []=>rfl
 | z::Z=>by simp only[gB,iE,kG,Tt Z];rfl
def Tu{p:Bi->Bool}:∀{l:List Bi} {ms:List V},ms.length=l.length->((l.zip ms).filter λz=>p z.1).map Prod.fst=l.filter p
 | [],[],_=>rfl
 | [],_::_,h=>by simp at h
 | _::_,[],h=>by simp at h
 | x::l,m::ms,h=>by have:=Tu (p:=p) (show ms.length=l.length by simpa using h);simp only[List.zip_cons_cons,List.filter_cons];split<;>simp[this]
def tB(h0:Hf)(n0:K)(h:Hf)(n lo:K)(v:V)(l:List Bi):Prop:=∃ms:List V,∃hm:ms.length=l.length,κ h n 2 v l.length (iE l ms)/\(v=.ns\/lo.num<=v.blk.num)/\∀i (hi:i<l.length),aZ h0 n0 (ms[i]'(by omega)) l[i].2
def tB.bi{h0:Hf}{n0 lo:K}{v:V}{l:List Bi}(a:tB h0 n0 h n lo v l)(e:Ext h0 n0 h n):dZ h n v l:=by obtain⟨ms,hm,h1,_,h2⟩:=a;exact⟨ms,hm,h1,λi hi=>(h2 i hi).ext e⟩
def tB.bO{h0 h':Hf}{n0 lo n':K}{v:V}{l:List Bi}(a:tB h0 n0 h n lo v l)(e:v=.ns\/h' v.blk=h v.blk)(b:n.num<=n'.num):tB h0 n0 h' n' lo v l:=by obtain⟨ms,hm,h1,h2,c⟩:=a;exact⟨ms,hm,h1.eD e b,h2,c⟩
def tB.lt{h0:Hf}{n0 lo:K}{v:V}{l:List Bi}(a:tB h0 n0 h n lo v l):v=.ns\/lo.num<=v.blk.num/\v.blk.num<n.num:=by
 obtain⟨ms,hm,h1,h2,b⟩:=a;rcases h2 with g | g
 ·exact Or.inl g
 ·exact h1.cP.imp id λk=>⟨g,k⟩
def akG(Y:fh C){v F:V}{l:List Bi}{ms:List V}{p:Bi->Bool}{h0 G:Hf}{n0 H lo:K}(dO:n0.num<=lo.num)(Z:Ext G H h0 n0)(hm:ms.length=l.length)(D:Ext h0 n0 h n)(I:Ow h n 38 2 v l.length (iE l ms))(hv:v=.ns\/lo.num<=v.blk.num)(ht:∀i (hi:i<l.length),aZ G H (ms[i]'(by omega)) l[i].2)(hlen:l.length<1000000)
 (hf:∀x m h' n' {Q':V->Hf->K->Prop},x∈l->aZ h' n' m x.2->Ext h0 n0 h' n'->(∀h2 w,Ext h' n' h2 w->Q' (.b (p x)) h2 w)->ν C F [.a [st x.1,m]] h' n' Q')
 (hQ:∀v' h' n',Ext h0 n0 h' n'->tB G H h' n' lo v' (l.filter λx=>!p x)->Q v' h' n'):ν C (.f 121 [] []) [v,F] h n Q:=by
 have hb:dZ h n v l:=⟨ms,hm,I.sl,λi hi=>(ht i hi).ext (Z.trans D)⟩;refine ν.go Y.f121 U ?_;refine ε<|γ U<|δ ?_;refine ε<|γ U<|γ U<|ψ U U<|Ti Y.f199 hb hlen (λx m h2 w Q' J tm M hq=>hf x m h2 w J tm (D.trans M) hq) <| λr h1 n1 y N=>γ U<|δ ?_;refine θ<|ε<|γ U<|aS U U<|δ ?_;rcases N with ⟨rfl,hn⟩ | ⟨k,hk,rfl,zJ,oU⟩
 ·refine ah U (by simp) ?_;have:l.filter (λx=>!p x)=l:=by rw[List.filter_eq_self];intro x J;rw[hn x J];rfl
  refine ε<|γ U<|γ U<|δ (Γ ⟨_,rfl,hQ v h1 n1 (D.trans y) (by rw[this];exact⟨ms,hm,I.sl.ext y,hv,ht⟩)⟩)
 refine ae U (by simp)<|Ω ?_;obtain⟨rM,A⟩:ea h 38 2 v l.length (iE l ms)/\(v=.ns\/v.blk.num<n.num):=by
  rcases I with g | ⟨b,_,g,_⟩
  ·exact g
  ·omega
 have O:v≠.ns:=λe=>by have:=rM.nil e;omega
 obtain⟨za,eG⟩:=rM.su.resolve_left O;have akH:=hv.resolve_left O;have rV:n0.num<=v.blk.num:=by omega
 have BU:=A.resolve_left O;generalize mr:v.blk=b at*;subst za;rw[Ts hm]at eG;have hZ:(l.zip ms).length=l.length:=by simp;omega
 have e01:=D.trans y;have akI:h1 b=some (.c (kG ((l.zip ms).map gz)) 38 0):=(y.2 b BU).trans eG;refine θ<|ε<|γ U<|aX U U ⟨by omega,by omega⟩<|γ U<|δ ?_;have fin:∀(L:List (S×V)) (h':Hf) (n':K),L.length=l.length->L.take ((l.zip ms).filter λz=>!p z.1).length=((l.zip ms).filter λz=>!p z.1).map gz->Ext h0 n0 h' n'->b.num<n'.num->h' b=some (.c (kG L) 38 0)->WC C Qn [(k0,.su b 0 l.length 2),(k5,.i .i64 (((l.zip ms).filter λz=>!p z.1).length:Nat))] h' n' (fq [.t k4] Q):=by
  intro L h' n' d q o u a';have hle:((l.zip ms).filter λz=>!p z.1).length<=l.length:=by have:=List.length_filter_le (λz:Bi×V=>!p z.1) (l.zip ms);omega
  have gD:∀m,(dL [V.s 0 0,V.ns] m).length=m*2:=λm=>sj _ _;refine ε<|γ U<|γ U<|akD U U hle<|akF U a' (by rw[gD,Cn,d];omega) U <| λh2 new P tj zg b2=>δ ?_;have b2:bm b h' h2:=b2;have x2:Ext h0 n0 h2 n':=o.ab b2 rV;rw[Cn,d]at tj;have ow2:ea h2 38 2 (.su b 0 l.length 2) l.length new:=⟨tj,Or.inr ⟨by omega,b,rfl,P⟩⟩;refine ε<|γ U<|γ U<|A6 U (ow2.sl (n:=n') (Or.inr u)) U U (by omega) hle <| λv3 s3 p3=>γ U<|δ (Γ ⟨_,rfl,hQ v3 h2 n' x2 ?_⟩);rw[eW,Tq,q]at zg;rw[←Tu hm];refine⟨((l.zip ms).filter λz=>!p z.1).map Prod.snd,by simp,?_,?_,λi hi=>?_⟩
  ·rw[Tt,kJ];rw[mF,Nat.zero_mul,gb,zg]at s3;exact s3
  ·rw[p3.2.1];exact Or.inr akH
  ·simp only[List.getElem_map];have R:=bK (l:=(l.zip ms).filter λz=>!p z.1) (n:=i) (by simpa using hi);obtain⟨j,hj,hz2⟩:=iX (List.mem_filter.1 R).1;rw[←hz2,List.getElem_zip];exact ht j (by omega)
 have loop:∀(r j:Nat) (L:List (S×V)) (h':Hf) (n':K),l.length - j=r->j<=l.length->L.length=l.length->L.take (((l.zip ms).take j).filter λz=>!p z.1).length=(((l.zip ms).take j).filter λz=>!p z.1).map gz->L.drop j=((l.zip ms).map gz).drop j->Ext h0 n0 h' n'->b.num<n'.num->h' b=some (.c (kG L) 38 0)->WC C ac4 [(k0,.su b 0 l.length 2),(k1,F),(k5,.i .i64 ((((l.zip ms).take j).filter λz=>!p z.1).length:Nat)),(k6,iN j)] h' n' (blk 0 (sq C Qn (fq [.t k4] Q))):=by
  intro r
  induction r with
  | zero=>
   intro j L h' n' N hj d q E o u a';have:j=l.length:=by omega
   subst this;rw[kI (Nat.le_of_eq hZ)]at q ⊢;have T:ea h' 38 2 (.su b 0 l.length 2) l.length (kG L):=⟨by rw[Cn,d],Or.inr ⟨by omega,b,rfl,a'⟩⟩;refine ax ?_;refine θ<|ε<|γ U<|γ U<|al U (T.sl (n:=n') (Or.inr u))<|ay U U<|δ ?_;exact ae U (by simp)<|aJ<|χ (fin L h' n' d q o u a') (ρ.rf U)
  | succ r ih=>
   intro j L h' n' N hj d q E o u a';have A:j<l.length:=by omega
   have T:ea h' 38 2 (.su b 0 l.length 2) l.length (kG L):=⟨by rw[Cn,d],Or.inr ⟨by omega,b,rfl,a'⟩⟩;have W:=T.sl (n:=n') (Or.inr u);have hLj:L[j]'(by omega)=(l[j].1,ms[j]'(by omega)):=by have:=congrArg (λl=>l[0]?) E;simp only[vL,hJ,List.getElem?_map]at this;rw[df (by omega),df (by omega)]at this;simp only[ou,lK,List.getElem_zip]at this;exact this
   have Di:(l.zip ms).take (j+1)=(l.zip ms).take j++[(l[j],ms[j]'(by omega))]:=by rw[fL (by omega),List.getElem_zip]
   have hcj:(((l.zip ms).take j).filter λz=>!p z.1).length<=j:=dU (List.length_filter_le _ _) (by simp;omega);have tmj:=(ht j A).ext (Z.trans o);have bf:aD [st l[j].1,ms[j]'(by omega)]=true:=by simp only[aD,tmj.one];rfl
   have Mo:ch (kG L) (0+j*2) 2=some [st l[j].1,ms[j]'(by omega)]:=by rw[eW,Tp (by omega),hLj]
   refine ax ?_;refine θ<|ε<|γ U<|γ U<|al U W<|ay U U<|δ ?_;refine ah U (by simp;omega)<|Ω ?_;refine θ<|aj<|ε<|γ U<|γ U<|aB U U W A<|ξ U (bc a' Mo)<|bA <| λh2 w dS P M=>aH U U P (cj (l:=[.s 0 0,.ns]) U U bf) <| λh3 a3 b3=>δ ?_;have b3:bm n' h2 h3:=b3;have x3:Ext h' n' h3 w:=M.ab b3 (φ _);have z4:=x3.1;refine ε<|γ U<|ξ U (bc a3 (iL rfl))<|ψ U U<|hf l[j] _ _ _ (bK A) (tmj.ext x3) (o.trans x3) <| λX n4 e4=>bZ U<|δ ?_;have x4:=x3.trans e4;have z5:=x4.1;have a4:X b=some (.c (kG L) 38 0):=(x4.2 b u).trans a';cases hp:p l[j] with
   | true=>
    have B:((l.zip ms).take (j+1)).filter (λz=>!p z.1)=((l.zip ms).take j).filter λz=>!p z.1:=by rw[Di,List.filter_append];simp[hp]
    refine ae U U<|Ω ?_;refine aA<|γ U<|aX U U ⟨by omega,by omega⟩<|γ U<|δ ?_;refine χ (ih (j+1) L X n4 (by omega) (by omega) d (by rw[B];exact q) ?_ (o.trans x4) (by omega) a4) ⟨rfl,rfl,by rw[B];rfl,rfl,trivial⟩;rw[←List.drop_drop,←List.drop_drop,E]
   | false=>
    have B:((l.zip ms).take (j+1)).filter (λz=>!p z.1)=(((l.zip ms).take j).filter λz=>!p z.1)++[(l[j],ms[j]'(by omega))]:=by rw[Di,List.filter_append];simp[hp]
    generalize hc:(((l.zip ms).take j).filter λz=>!p z.1).length=c at*;refine ah U U ?_;have bR:ju (kG L) 0 (0+c*2) 2 (.a [st l[j].1,ms[j]'(by omega)])=some (kG (L.set c (l[j].1,ms[j]'(by omega)))):=by rw[eW];simp only[ju,V.cells,dy,jy,bf,Nat.ble,Bool.and_true,To (show c<L.length by omega)];rfl
    refine ε<|γ U<|γ U<|ξ U (bc ((e4.2 n' (by omega)).trans a3) (iL rfl))<|aB U U (W.ext x4) (by omega)<|aH U U a4 bR <| λh5 a5 b5=>δ ?_;have b5:bm b X h5:=b5;refine aA<|γ U<|aX U U ⟨by omega,by omega⟩<|γ U<|δ ?_;refine aA<|γ U<|aX U U ⟨by omega,by omega⟩<|γ U<|δ ?_;refine χ (ih (j+1) (L.set c (l[j].1,ms[j]'(by omega))) h5 n4 (by omega) (by omega) (by simpa using d) ?_ ?_ ((o.trans x4).ab b5 rV) (by omega) a5) ⟨rfl,rfl,by rw[B,gp,hc];rfl,rfl,trivial⟩
    ·rw[B,gp,hc,List.map_append];show(L.set c _).take (c+1)=_;rw[fL (by rw[gZ];omega),vM,List.take_set_of_le (φ _),q];rfl
    ·rw[List.drop_set_of_lt (by omega),←List.drop_drop,←List.drop_drop,E]
 have ek:((l.zip ms).take (k+1)).filter (λz=>!p z.1)=(l.zip ms).take k:=by
  rw[fL (by omega),List.getElem_zip,List.filter_append];have h1:((l.zip ms).take k).filter (λz=>!p z.1)=(l.zip ms).take k:=by
   rw[List.filter_eq_self];intro z R;obtain⟨j,hj,rfl⟩:=iX R;have hjk:j<k:=by simp at hj;omega
   rw[List.getElem_take,List.getElem_zip];have:=oU l[j] (by rw[List.mem_iff_getElem];exact⟨j,by simp;omega,by rw[List.getElem_take]⟩);rw[this];rfl
  rw[h1];simp[zJ]
 have ekl:(((l.zip ms).take (k+1)).filter λz=>!p z.1).length=k:=by rw[ek];simp;omega
 refine aj<|χ (loop _ (k+1) ((l.zip ms).map gz) h1 n1 rfl (by omega) (by rw[kJ,hZ]) ?_ rfl e01 (by have:=y.1;omega) akI) ⟨rfl,rfl,?_,rfl,trivial⟩
 ·rw[ekl,ek,List.map_take]
 ·rw[ekl];rfl
end
end Go.Ev.X
namespace Go.Ev.X
open Go Go.Ev
def taken(l:List Bi)(vs:List (S×S))(ks:List (List Nd))(s:S):Bool:=nj s l||decide (s∈vs.map Prod.fst)||rL s ks
def fresh(l:List Bi)(vs:List (S×S))(ks:List (List Nd)):Nat->S->S
 | 0,s=>s
 | f+1,s=>if taken l vs ks s=true then fresh l vs ks f (s++[39]) else s
def Gv(F:Nat)(l:List Bi)(ks:List (List Nd))(s:List (S×S)×List Bi)(i:Nat):List (S×S)×List Bi:=
 match s.1[i]? with
 | some x=>if nj x.1 l=true then (s.1.set i (fresh l s.1 ks F (x.1++[39]),x.2),s.2++[(x.1,nh (fresh l s.1 ks F (x.1++[39])) x.2)]) else s
 | none=>s
def rn(F:Nat)(l:List Bi)(ks:List (List Nd))(vs:List (S×S)):Nat->List (S×S)×List Bi
 | 0=>(vs,l)
 | i+1=>Gv F l ks (rn F l ks vs i) i
def put(F:Nat):Nat->List Nd->List Bi->List Nd
 | 0,t,_=>t
 | f+1,t,l=>match t.getLast? with
  | none=>t
  | some n=>
   if n.op=3 then (my n.name l).getD t
   else if n.op=17\/n.op=18 then
    jr { n with vars:=(rn F (cZ t l) (parts t) n.vars n.vars.length).1} ((parts t).map λk=>put F f k (rn F (cZ t l) (parts t) n.vars n.vars.length).2)
   else jr n ((parts t).map λk=>put F f k l)
def jX(N:Nat)(ts:List Nd):Prop:=∀x∈ts,x.name.length<=N/\∀v∈x.vars,v.1.length<=N
def jX.mono{N M:Nat}{ts:List Nd}(h:jX N ts)(e:N<=M):jX M ts:=λx a=>⟨dU (h x a).1 e,λv hv=>dU ((h x a).2 v hv) e⟩
def Fq{N:Nat}{ts:List Nd}(h:jX N ts):∀i,∀v∈jL ts i,v.1.length<=N
 | 0,v,hv=>by cases hv
 | i+1,v,hv=>by
  unfold jL at hv;split at hv
  ·rename_i x a;split at hv
   ·rcases gQ.1 hv with g | g
    ·exact Fq h i v g
    ·rw[iZ]at g;subst g;exact(h x (List.mem_of_getElem? a)).1
   ·exact Fq h i v hv
  ·exact Fq h i v hv
def Tv{N:Nat}{ts:List Nd}(h:jX N ts){s:S}(hs:N<s.length):lZ s ts=false:=by unfold lZ;rw[eK];intro g;obtain⟨v,hv,rfl⟩:=List.mem_map.1 g;have:=Fq h ts.length v hv;omega
def KY{N:Nat}{l:List Bi}{vs:List (S×S)}{ks:List (List Nd)}(h1:∀b∈l,jX N b.2)(h2:∀v∈vs,v.1.length<=N)(a:∀k∈ks,jX N k){s:S}(hs:N<s.length):taken l vs ks s=false:=by
 unfold taken;have c:nj s l=false:=by unfold nj;rw[List.any_eq_false];intro b hb;rw[Tv (h1 b hb) hs];decide
 have d:decide (s∈vs.map Prod.fst)=false:=by rw[eK];intro g;obtain⟨v,hv,rfl⟩:=List.mem_map.1 g;have:=h2 v hv;omega
 have e:rL s ks=false:=by unfold rL;rw[List.any_eq_false];intro k f;rw[Tv (a k f) hs];decide
 rw[c,d,e];rfl
def Tw{N:Nat}{l:List Bi}{vs:List (S×S)}{ks:List (List Nd)}(h1:∀b∈l,jX N b.2)(h2:∀v∈vs,v.1.length<=N)(a:∀k∈ks,jX N k):∀(f:Nat) (s:S),s.length<=N+1->(fresh l vs ks f s).length<=N+1
 | 0,s,h=>h
 | f+1,s,h=>by
  unfold fresh;split
  ·rename_i ht;refine Tw h1 h2 a f _ ?_;by_cases hs:s.length<=N
   ·simp;omega
   ·rw[KY h1 h2 a (by omega)]at ht;cases ht
  ·exact h
end Go.Ev.X
