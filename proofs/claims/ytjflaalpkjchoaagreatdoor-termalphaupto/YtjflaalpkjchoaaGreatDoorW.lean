/- A part of the proof. -/
import Derived.Test.YtjflaalpkjchoaaGreatDoorI
import Derived.Test.YtjflaalpkjchoaaGreatDoorD
set_option linter.all false
namespace Go.Ev.X
open Go Go.Ev
attribute [local irreducible] WC WO WD SO μ
section
variable {C:Nat->Option aE}{h:Hf}{n:K}{Q:V->Hf->K->Prop}
end
section
variable {C:Nat->Option aE}{h:Hf}{n:K}{Q:V->Hf->K->Prop}
def ak8(e:Cd C){t:V}{l:List Int}(ht:fh h n .i64 t l)(hlen:l.length<20000000)
 (a:∀v' h' n',Ext h n h' n'->Ow h' n' 3 1 v' l.length (dX .i64 l)->(v'=.ns\/n.num<=v'.blk.num)->Q v' h' n'):μ C (.f 192 [] []) [t] h n Q:=by
 refine μ.go e.f192 U ?_;refine ε<|γ U<|δ ?_;have go:mq .eql (.one .slice) t .ns=some (.b false)->WC C aeM [(k0,t)] h n (fq [.t k2] Q):=by intro hv;refine φ<|ε<|γ U<|lE U U hv<|δ ?_;refine az U U<|ay ?_;refine ε<|jJ U <| λh1 n1 s i d=>γ U<|F0 U (κ.whole (len:=0) (by omega) i rfl) U (ht.ext d) (by omega) (by omega) (by omega) <| λj k m o3 p q=>γ U<|δ ?_;exact aj ⟨_,rfl,a j k m (d.trans p) o3 (q.imp id λh=>by rcases h with h | h<;>rw[h]<;>omega)⟩
 obtain⟨g1,r⟩:=id ht;rcases r with g | ⟨⟨b,o,c,g,_⟩,_⟩
 ·have hl:l=[]:=kW.1 g.2;rw[g.1];refine φ<|ε<|γ U<|lE U U U<|δ ?_;refine ax U U ?_;refine ε<|γ U<|δ ?_;refine aj ⟨_,rfl,a .ns h n (Ext.refl h n) (Or.inl ⟨?_,Or.inl U⟩) (Or.inl U)⟩;rw[hl];exact dB.ns h 3 1
 ·refine au (go ?_) (Θ.rf U);rcases g with g | g
  ·rw[g.1];rfl
  ·rw[g];rfl
def Lo(e:Cd C){t:V}{l:List (S×S)}(ht:dV h n t l)(hlen:l.length<20000000)
 (a:∀v' h' n',Ext h n h' n'->Ow h' n' 37 2 v' l.length (fU l)->(v'=.ns\/n.num<=v'.blk.num)->Q v' h' n'):μ C (.f 116 [] []) [t] h n Q:=by
 refine μ.go e.f116 U ?_;refine ε<|γ U<|δ ?_;have go:mq .eql (.one .slice) t .ns=some (.b false)->WC C aeB [(k0,t)] h n (fq [.t k2] Q):=by intro hv;refine φ<|ε<|γ U<|lE U U hv<|δ ?_;refine az U U<|ay ?_;refine ε<|jJ U <| λh1 n1 s i d=>γ U<|F0 U (κ.whole (len:=0) (by omega) i rfl) U (ht.ext d) (by omega) (by omega) (by omega) <| λj k m o3 p q=>γ U<|δ ?_;exact aj ⟨_,rfl,a j k m (d.trans p) o3 (q.imp id λh=>by rcases h with h | h<;>rw[h]<;>omega)⟩
 obtain⟨g1,r⟩:=id ht;rcases r with g | ⟨⟨b,o,c,g,_⟩,_⟩
 ·have hl:l=[]:=kW.1 g.2;rw[g.1];refine φ<|ε<|γ U<|lE U U U<|δ ?_;refine ax U U ?_;refine ε<|γ U<|δ ?_;refine aj ⟨_,rfl,a .ns h n (Ext.refl h n) (Or.inl ⟨?_,Or.inl U⟩) (Or.inl U)⟩;rw[hl];exact dB.ns h 37 2
 ·refine au (go ?_) (Θ.rf U);rcases g with g | g
  ·rw[g.1];rfl
  ·rw[g];rfl
def ak9{v:V}:∀(l:List Nd) (m:List (V×V)) (i:Nat) (hm:m.length=l.length) (hi:i<m.length),(bJ l m).set (i*5+4) v=bJ l (m.set i (m[i].1,v)):=by
 intro l
 induction l with
 | nil=>intro m i hm hi;rw[hm]at hi;simp at hi
 | cons x l ih=>
  intro m i hm hi;cases m with
  | nil=>simp at hi
  | cons p m=>
   cases i with
   | zero=>rfl
   | succ i=>
    have:=ih m i (by simpa using hm) (by simpa using hi);rw[show(i+1)*5+4=(i*5+4)+5 by omega];simp only[qe,oV];show(cB x p.1 p.2++bJ l m).set _ _=cB x p.1 p.2++bJ l (m.set i ((m[i]'(by simpa using hi)).1,v));rw[←this];rfl
def ala{v:V}:∀(l:List Nd) (m:List (V×V)) (i:Nat) (hm:m.length=l.length) (hi:i<m.length),(bJ l m).set (i*5+3) v=bJ l (m.set i (v,m[i].2)):=by
 intro l
 induction l with
 | nil=>intro m i hm hi;rw[hm]at hi;simp at hi
 | cons x l ih=>
  intro m i hm hi;cases m with
  | nil=>simp at hi
  | cons p m=>
   cases i with
   | zero=>rfl
   | succ i=>
    have:=ih m i (by simpa using hm) (by simpa using hi);rw[show(i+1)*5+3=(i*5+3)+5 by omega];simp only[qe,oV];show(cB x p.1 p.2++bJ l m).set _ _=cB x p.1 p.2++bJ l (m.set i (v,(m[i]'(by simpa using hi)).2));rw[←this];rfl
def alb{v:V}{l:List Nd}{m:List (V×V)}{i:Nat}(h1:v.cells=[v])(h2:v.one=true)(hm:m.length=l.length)(hi:i<m.length):lT (bJ l m) 0 (0+i*5+4) 1 v=some (bJ l (m.set i (m[i].1,v))):=by refine mB h1 h2 ?_;rw[Fm v (by rw[pj hm];omega),show 0+i*5+4=i*5+4 by omega,ak9 l m i hm hi]
def alc{v:V}{l:List Nd}{m:List (V×V)}{i:Nat}(h1:v.cells=[v])(h2:v.one=true)(hm:m.length=l.length)(hi:i<m.length):lT (bJ l m) 0 (0+i*5+3) 1 v=some (bJ l (m.set i (v,m[i].2))):=by refine mB h1 h2 ?_;rw[Fm v (by rw[pj hm];omega),show 0+i*5+3=i*5+3 by omega,ala l m i hm hi]
def ald:∀{l:List Nd} {m:List (V×V)},(∀p∈m,p.1.one=true/\p.2.one=true)->aB (bJ l m)=true:=by
 intro l
 induction l with
 | nil=>intro m _;cases m<;>rfl
 | cons x l ih=>
  intro m hm;cases m with
  | nil=>rfl
  | cons p m=>
   have h1:=hm p (by simp);have h2:=ih (m:=m) λq a=>hm q (by simp[a]);show aB (cB x p.1 p.2++bJ l m)=true;simp only[cB,j8,List.nil_append,aB,h1.1,h1.2,h2];rfl
def uf(z:List V):∀m:Nat,(dS z m).length=m*z.length:=by
 intro m
 induction m with
 | zero=>simp[dS]
 | succ m ih=>simp[dS,ih,tQ,oW]
def RO.cW{h h':Hf}{lo n n':K}{v:V}{x:Nd}{p:V×V}(a:RO h lo n v x p)(hv:v≠.ns)(hs:∀b:K,b.num<n.num->b.num≠v.blk.num->h' b=h b)(c:n.num<=n'.num):RO h' lo n' v x p:=by
 have e:∀{w:V},(w=.ns\/w.blk.num<n.num)->dE w v->w=.ns\/h' w.blk=h w.blk:=by
  intro w h1 h2;rcases h1 with l | l
  ·exact Or.inl l
  ·rcases h2 with g | g | g
   ·exact Or.inl g
   ·exact absurd g hv
   ·exact Or.inr (hs _ l g)
 have f:=e (κ.dT a.b) a.vt;have d:=e (κ.dT a.k) a.kt;refine⟨κ.iI a.b f c,κ.iI a.k d c,?_,a.kr,a.vr,a.vk,a.vt,a.kt⟩;rcases a.ko with g | g
 ·exact Or.inl g
 ·rcases d with e | e
  ·have:=g.1;rw[e]at this;cases this
  ·exact Or.inr ⟨g.1,by rw[e];exact g.2⟩
end
section
variable {C:Nat->Option aE}{h:Hf}{n:K}{Q:V->Hf->K->Prop}
def Ow.ko{v:V}{l:List Int}(a:Ow h n 3 1 v l.length (dX .i64 l)):l=[]\/(v=.su v.blk 0 l.length 1/\h v.blk=some (.c (dX .i64 l) 3 0)):=by
 rcases a with ⟨a,_⟩ | ⟨b,_,h2,_⟩
 ·rcases a.su with g | g
  ·exact Or.inl (kW.1 (a.nil g))
  ·exact Or.inr g
 ·exact Or.inl (kW.1 h2)
def set_drop{α:Type}(m m0:List α)(hi:m.length<m0.length)(a b:α):((m++m0.drop m.length).set m.length a).set m.length b=m++[b]++m0.drop (m.length+1):=by rw[List.set_set,List.set_append_right _ _ (ξ _),kY,gL hi,List.set_cons_zero,ku];rfl
section
variable {h0:Hf}{n0 b:K}{t:V}{ts:List Nd}{m0:List (V×V)}
def ale(W:Cd C)(xP:kJ h0 n0 t ts m0)(hb:Bd ts)(J:n0.num<=b.num){Q1:Ex->Env->Hf->K->Prop}
 (hQ:∀m h n E',Ext h0 n0 h n->TO h n0 n (.sl b 0 ts.length ts.length) ts m->Θ [(k3,.sl b 0 ts.length ts.length)] E'->Q1 .normal E' h n):
 ∀(r i:Nat) (m:List (V×V)) (h:Hf) (n:K),ts.length - i=r->i<=ts.length->m.length=i->b.num<n.num->Ext h0 n0 h n->h b=some (.c (bJ ts (m++m0.drop i)) 35 0)->dw (RO h n0 n (.sl b 0 ts.length ts.length)) (ts.take i) m->(m.Pairwise λp q=>dE p.2 q.2/\dE p.1 q.2/\dE p.2 q.1)->WC C aey [(k3,.sl b 0 ts.length ts.length),(lW,iN ts.length),(pT,iN i)] h n (blk 0 Q1):=by
 have hlen:=hb.len;obtain⟨AW,gI,hrw⟩:=xP;intro r
 induction r with
 | zero=>
  intro i m h n E hi hm w y A z L;have:i=ts.length:=by omega
  subst this;rw[fO]at z;have hd:m++m0.drop ts.length=m:=by rw[qR (by omega),List.append_nil]
  rw[hd]at A;refine aF ?_;refine ε<|aH U U<|δ ?_;exact φ<|az U (by simp)<|bG (hQ m h n _ y ⟨κ.whole w A (pj hm),z,L,Or.inr J⟩ (Θ.rf U))
 | succ r ih=>
  intro i m h n E hi hm w y A z L;have s:i<ts.length:=by omega
  have eB:=hb.jM i s;have om:=hb.vl i s;have H8:i<m0.length:=by omega
  obtain⟨Yv,iK⟩:=hrw i s;have M:=κ.ext Yv y;have N:=κ.ext iK y;have O:(m++m0.drop i).length=ts.length:=by simp;omega
  have hMi:(m++m0.drop i)[i]'(by omega)=m0[i]:=by rw[List.getElem_append_right (by omega)];simp[hm]
  have sl:κ h n 5 (.sl b 0 ts.length ts.length) ts.length (bJ ts (m++m0.drop i)):=κ.whole w A (pj O);have X:∀{h' n'},Ext h n h' n'->bc h' true 5 (.p b (0+i*5))=some (.a (cB ts[i] m0[i].1 m0[i].2)):=by intro h' n' e;have:=(sl.ext e).jG (i:=i*5) (sz:=5) (by omega) (by omega);rw[we O s,hMi]at this;exact this
  have ldk:bc h false 1 (.p b (0+i*5+4))=some m0[i].2:=oF (X (Ext.refl _ _)) U;have P:∀{h' n'},Ext h n h' n'->bc h' false 1 (.p b (0+i*5+3))=some m0[i].1:=λe=>oF (X e) U;refine aF ?_;refine ε<|aH U U<|δ ?_;refine φ<|ax U (by simp<;>omega)<|ay ?_;refine φ<|aA<|ε<|γ U<|γ U<|δ ?_;refine rB<|aI U<|aI U<|aI U<|aI U<|aI U<|aI U<|js U U sl s<|cI U<|aO U ldk (κ.below N (ξ _)) (κ.dL N)<|ch U U<|ak8 W N (by omega) <| λv5 F R d o5 B=>aI U<|aI U<|js U U sl s<|cI U<|aO U (P d) (κ.below M d.1) (κ.dL M)<|ch U U<|Lo W (κ.ext M d) (by omega) <| λo G D v o3 S=>js U U sl s<|cI U<|fK U U ((v.2 b (by have:=d.1;omega)).trans ((d.2 b w).trans A)) (alb o5.sl.cells o5.sl.one O (by omega)) <| λY a6 b6=>js U U sl s<|cI U<|fK U U a6 (alc o3.sl.cells o3.sl.one (by simp;omega) (by simp;omega)) <| λu a7 b7=>df (⟨⟨al (by simp[Nat.testBit]),al (by simp[Nat.testBit]),al (by simp[Nat.testBit]),cT (P (Ext.refl _ _)) (P d),trivial⟩,⟨al (by simp[Nat.testBit]),al (by simp[Nat.testBit]),al (by simp[Nat.testBit]),al (by simp[Nat.testBit]),trivial⟩,trivial⟩) ?_;have d:Ext h n F R:=d;have v:Ext F R G D:=v;have H:bA b G Y:=b6;have I:bA b Y u:=b7;have o5:Ow F R 3 1 v5 ts[i].kids.length (dX .i64 ts[i].kids):=o5;have o3:Ow G D 37 2 o ts[i].vars.length (fU ts[i].vars):=o3;have Y1:u b=some (.c (bJ ts (((m++m0.drop i).set i (((m++m0.drop i)[i]'(by omega)).1,v5)).set i (o,(((m++m0.drop i).set i (((m++m0.drop i)[i]'(by omega)).1,v5))[i]'(by simp;omega)).2))) 35 0):=a7;have pC:=d.1;have kh:=v.1;have rJ:=y.1;have cW:∀k:K,k.num<n.num->k.num≠b.num->u k=h k:=λk h1 h2=>by rw[I k h2,H k h2,v.2 k (by omega),d.2 k h1]
  have l5:=κ.dT o5.sl;have l3:=κ.dT o3.sl;have Z:v5=.ns\/u v5.blk=F v5.blk:=by
   rcases l5 with l | l
   ·exact Or.inl l
   ·rcases B with p | p
    ·exact Or.inl p
    ·exact Or.inr (by rw[I _ (by omega),H _ (by omega),v.2 _ l])
  have f3:o=.ns\/u o.blk=G o.blk:=by
   rcases S with p | p
   ·exact Or.inl p
   ·exact Or.inr (by rw[I _ (by omega),H _ (by omega)])
  have xe:Ext h0 n0 u D:=(((y.trans d).trans v).Ξ H J).Ξ I J;have KJ:v5=.ns\/n0.num<=v5.blk.num:=B.imp id λh=>by omega
  have T:o=.ns\/n.num<=o.blk.num:=S.imp id λh=>by omega
  have KK:o=.ns\/n0.num<=o.blk.num:=T.imp id λh=>by omega
  have ro:RO u n0 D (.sl b 0 ts.length ts.length) ts[i] (o,v5):=by
   refine⟨κ.iI o3.sl f3 (ξ _),κ.iI o5.sl Z kh,?_,KJ,KK,?_,?_,?_⟩
   ·rcases o5.ko with g | g
    ·exact Or.inl g
    ·rcases Z with f | f
     ·have:=g.1;rw[f]at this;cases this
     ·exact Or.inr ⟨g.1,by rw[f];exact g.2⟩
   ·exact(dE.of l5 (S.imp id λh=>by omega)).symm
   ·exact(dE.of (a:=.sl b 0 ts.length ts.length) (n:=n) (Or.inr w) T).symm
   ·exact(dE.of (a:=.sl b 0 ts.length ts.length) (n:=n) (Or.inr w) B).symm
  have mb:ts.take (i+1)=ts.take i++[ts[i]]:=gm s;refine aP<|cj U U ⟨by omega,by omega⟩<|γ U<|δ ?_;refine au (ih (i+1) (m++[(o,v5)]) u D (by omega) (by omega) (by simp[hm]) (by omega) xe ?_ ?_ ?_) (Θ.rf U)
  ·rw[Y1];subst hm;rw[set_drop m m0 H8];simp only[xk]
  ·rw[mb];exact dw.app (dw.mono (λx p a=>a.cW (by intro h;cases h) cW (by omega)) z) ⟨ro,trivial⟩
  ·rw[List.pairwise_append];refine⟨L,List.pairwise_singleton _ _,?_⟩;intro p hp q hq;rw[gF]at hq;subst hq;obtain⟨j,hj,rfl⟩:=fD hp;have E:=z.get j (by rw[←z.len];exact hj) hj;have b1:=κ.dT E.b;have b2:=κ.dT E.k;exact⟨dE.of b2 B,dE.of b1 B,dE.of b2 T⟩
end
def F9(c:Cd C){t:V}{ts:List Nd}(ht:bK h n t ts)(hb:Bd ts)(e:∀vo m h' n',Ext h n h' n'->TO h' n n' vo ts m->Q vo h' n'):μ C (.f 111 [] []) [t] h n Q:=by refine μ.go c.f111 U ?_;obtain⟨m0,tm⟩:=ht;have hs:=tm.2.1;have hlen:=hb.len;refine ε<|γ U<|δ ?_;refine ε<|γ U<|aJ U hs<|xY U U (by omega) (by omega) <| λh1 n1 u g a=>γ U<|δ ?_;have v:kJ h1 n1 t ts m0:=⟨tm.1,hs.ext a,λi hi=>⟨(tm.2.2 i hi).1.ext a,(tm.2.2 i hi).2.ext a⟩⟩;refine ε<|γ U<|γ U<|Q7 U g (uf _ _) U (hs.ext a) (ald (λp hp=>by obtain⟨j,hj,rfl⟩:=fD hp;exact⟨(tm.2.2 j (by rw[←tm.1];exact hj)).1.one,(tm.2.2 j (by rw[←tm.1];exact hj)).2.one⟩)) <| λh2 d b2=>δ ?_;have k:bA n h1 h2:=b2;refine φ<|ε<|γ U<|aJ U (κ.whole (n:=n1) (by omega) d (pj tm.1))<|γ U<|δ ?_;refine aA<|au (ale (b:=n) c tm hb (ξ _) ?_ _ 0 [] h2 n1 rfl (by omega) U (by omega) (a.Ξ k (ξ _)) (by simpa using d) trivial List.Pairwise.nil) (Θ.rf U);intro m l o E3 q r s;refine dO s ?_;refine ε<|γ U<|γ U<|δ (aj ⟨_,rfl,e _ m l o q r⟩)
end
section
variable {C:Nat->Option aE}{h:Hf}{n:K}{Q:V->Hf->K->Prop}
section
variable {h0:Hf}{lo n0:K}{f:Nat}{t0:List Nd}{v:V}{m:List (V×V)}
def alf(hlen:t0.length<100000)(hf:f<100000)(A:∀i (hi:i<t0.length),t0[i].kids.length<1000000)(B:∀i (hi:i<t0.length),∀k∈t0[i].kids,0<=k/\k<1000000){i:Nat}(hi:i<t0.length)(W:n0.num<=lo.num){Q1:Ex->Env->Hf->K->Prop}
 {L:Nat}(D:∀us h E',Ext h0 n0 h n->TO h lo n v us m->pE (λx=>x - (f:Int)) t0 us (i+1) 0->Θ [(k5,iN f),(k6,v),(sy,iN L),(G4,iN i)] E'->Q1 .normal E' h n):
 ∀(r k:Nat) (us:List Nd) (h:Hf),t0[i].kids.length - k=r->k<=t0[i].kids.length->Ext h0 n0 h n->TO h lo n v us m->pE (λx=>x - (f:Int)) t0 us i k->WC C aeP [(k5,iN f),(k6,v),(sy,iN L),(G4,iN i),(k7,iN i),(Np,.i .i64 (t0[i].kids.length:Nat)),(Yd,iN k)] h n (blk 2 Q1):=by
 intro r
 induction r with
 | zero=>
  intro k us h E F he j l;have G:k=t0[i].kids.length:=by omega
  subst G;have d:i<us.length:=by rw[l.len];exact hi
  obtain⟨cs,hs⟩:=(show bK h n v us from⟨m,j.tm⟩).sl;obtain⟨vv,kv,H⟩:=(show bK h n v us from⟨m,j.tm⟩).node d;have hl:us[i].kids.length=t0[i].kids.length:=by rw[l.at_ d hi];exact CF _ _ _
  have X:=H.kids;refine aF ?_;refine ε<|aH U U<|δ ?_;exact φ<|az U (by simp)<|bG (D us h _ he j (pE.next (by rw[aX hi];exact l)) (Θ.rf U))
 | succ r ih=>
  intro k us h E F he j l;have t:k<t0[i].kids.length:=by omega
  have d:i<us.length:=by rw[l.len];exact hi
  have u:i<m.length:=by rw[j.rows.len];exact d
  obtain⟨cs,hs⟩:=(show bK h n v us from⟨m,j.tm⟩).sl;have q:=j.rows.get i d u;have I:=j.sl;have hl:us[i].kids.length=t0[i].kids.length:=by rw[l.at_ d hi];exact CF _ _ _
  have s:k<us[i].kids.length:=by omega
  have J:bc h true 5 (.p v.blk (v.off+i*5))=some (.a (cB us[i] m[i].1 m[i].2)):=by have:=I.jG (i:=i*5) (sz:=5) (by omega) (by omega);rw[we j.rows.len d]at this;exact this
  have M:bc h false 1 (.p v.blk (v.off+i*5+4))=some m[i].2:=oF J rfl;have w:=q.k.get s 1;have N:us[i].kids[k]=t0[i].kids[k]:=by
   have e:=l.at_ d hi;have:us[i].kids=shl (λx=>x - (f:Int)) k t0[i].kids:=by rw[e];rfl
   simp only[this];exact Tn t
  rw[N]at w;have Y:=B i hi t0[i].kids[k] (bL _);have Z:=A i hi;have O:m[i].2≠.ns:=by
   intro h;have:=q.k;rw[h]at this;rcases this.2 with g | ⟨⟨b,o,c,g,_⟩,_⟩
   ·have:=g.2;omega
   ·rcases g with g | g
    ·cases g.1
    ·cases g
  have y:m[i].2=.su m[i].2.blk 0 us[i].kids.length 1/\h m[i].2.blk=some (.c (dX .i64 us[i].kids) 3 0):=by
   rcases q.ko with g | g
   ·simp[g]at s
   ·exact g
  have P:n0.num<=m[i].2.blk.num:=by
   rcases q.kr with g | g
   ·exact absurd g O
   ·omega
  have R:m[i].2.off=0:=by rw[y.1];rfl
  refine aF ?_;refine ε<|aH U U<|δ ?_;refine φ<|ax U (by simp<;>omega)<|ay ?_;refine φ<|aA<|ε<|γ U<|γ U<|δ ?_;refine aP<|γ U<|γ U<|aV U U hs d<|χ U<|ν U M<|γ U<|aV U U q.k s<|ν U w<|γ U<|pn U U ⟨by omega,by omega⟩<|aV U U q.k s<|aR U U y.2 (CB (i:=k) s _ (by rw[R];omega)) <| λh1 S b1=>δ ?_;have z:bA m[i].2.blk h h1:=b1;have T:h1 m[i].2.blk=some (.c (dX .i64 (us[i].kids.set k (t0[i].kids[k] - f))) 3 0):=S;refine aP<|cj U U ⟨by omega,by omega⟩<|γ U<|δ ?_;exact au (ih (k+1) _ h1 (by omega) (by omega) (he.Ξ z P) (j.Tm d u s z T) (l.set d hi t)) (Θ.rf U)
def ali(hlen:t0.length<100000)(hf:f<100000)(j:∀i (hi:i<t0.length),t0[i].kids.length<1000000)(l:∀i (hi:i<t0.length),∀k∈t0[i].kids,0<=k/\k<1000000)(o:n0.num<=lo.num){Q1:Ex->Env->Hf->K->Prop}
 (p:∀h E',Ext h0 n0 h n->TO h lo n v (t0.map (ma f)) m->Θ [(k6,v)] E'->Q1 .normal E' h n):
 ∀(r i:Nat) (us:List Nd) (h:Hf),t0.length - i=r->i<=t0.length->Ext h0 n0 h n->TO h lo n v us m->pE (λx=>x - (f:Int)) t0 us i 0->WC C RF [(k5,iN f),(k6,v),(sy,iN t0.length),(G4,iN i)] h n (blk 0 Q1):=by
 intro r
 induction r with
 | zero=>
  intro i us h q hi he b a;have:i=t0.length:=by omega
  subst this;obtain⟨cs,hs⟩:=(show bK h n v us from⟨m,b.tm⟩).sl;have s:=a.len;refine aF ?_;refine ε<|aH U U<|δ ?_;exact φ<|az U (by simp)<|bG (p h _ he (by have e:=a.done;subst e;exact b) (Θ.rf U))
 | succ r ih=>
  intro i us h q hi he b a;obtain⟨cs,hs⟩:=(show bK h n v us from⟨m,b.tm⟩).sl;have s:=a.len;have c:i<t0.length:=by omega
  have d:i<us.length:=by rw[a.len];exact c
  obtain⟨vv,kv,g⟩:=(show bK h n v us from⟨m,b.tm⟩).node d;have hl:us[i].kids.length=t0[i].kids.length:=by rw[a.at_ d c];exact CF _ _ _
  refine aF ?_;refine ε<|aH U U<|δ ?_;refine φ<|ax U (by simp<;>omega)<|ay ?_;refine φ<|aA<|ε<|γ U<|γ U<|δ ?_;refine ε<|γ U<|γ U<|aV U U hs d<|χ U<|ν U (g.ks _)<|aJ U g.kids<|γ U<|δ ?_;rw[hl];refine aA<|au (alf hlen hf j l c o ?_ _ 0 us h rfl (by omega) he b a) (Θ.rf U);intro t h1 E1 u w c1 s1;refine dO s1 ?_;refine aP<|cj U U ⟨by omega,by omega⟩<|γ U<|δ ?_;exact au (ih (i+1) t h1 (by omega) (by omega) u w c1) (Θ.rf U)
end
def alj(a:Cd C){t:V}{ts:List Nd}{i:Nat}(ht:bK h n t ts)(hb:Bd ts)(hi:i<ts.length)(b:∀j,j<ts.length->ord ts j=true)
 (l:∀v' h' n',Ext h n h' n'->TG h' n n' v' (part ts i)->Q v' h' n'):μ C (.f 195 [] []) [t,iN i] h n Q:=by
 refine μ.go a.f195 U ?_;have hlen:=hb.len;have B:=fw ts i;obtain⟨cs,hs⟩:=ht.sl;refine ε<|γ U<|δ ?_;refine ε<|γ U<|γ U<|ah U U<|Yx a.f44 ht (by omega) hi (λj hj=>b j (by omega))<|γ U<|δ ?_;generalize hf:fs ts i=f at*;refine ε<|γ U<|γ U<|γ U<|nH U U (show(i:Int)+1=((i+1:Nat):Int) from rfl) ⟨by omega,by omega⟩<|Fk U hs U U ((show f<=i+1 by omega)) ((show i+1<=ts.length by omega)) <| λD o l2=>ah U U<|F9 a (bK.sub ht (by omega) hs o) (hb.sub _ _) <| λvo m p r s c=>γ U<|δ ?_;have E:((ts.drop f).take (i+1 - f)).length=i+1 - f:=by simp;omega
 have d:=hb.sub f (i+1 - f);have u:∀q (w:q<((ts.drop f).take (i+1 - f)).length),∀k∈((ts.drop f).take (i+1 - f))[q].kids,0<=k/\k<1000000:=by
  intro q w k g;have e:((ts.drop f).take (i+1 - f))[q]=ts[f+q]'(by omega):=by simp
  rw[e]at g;have:=FU (by omega) (b (f+q) (by omega)) k g;omega
 refine φ<|ε<|γ U<|aJ U c.sl<|γ U<|δ ?_;refine aA<|au (ali (h0:=h) (n0:=n) (lo:=n) d.len (by omega) d.jM u (ξ _) ?_ _ 0 _ p rfl (by omega) s c (pE.start _ _)) (Θ.rf U);intro x E4 y z A;refine dO A ?_;refine ε<|γ U<|γ U<|δ (aj ⟨_,rfl,l vo x r y (by unfold part;rw[hf];exact z.tg (ξ _))⟩)
end
section
variable {C:Nat->Option aE}{h:Hf}{n:K}{Q:V->Hf->K->Prop}
def dE.cW{h h':Hf}{n:K}{w v:V}(h1:w=.ns\/w.blk.num<n.num)(h2:dE w v)(hs:∀k:K,k.num<n.num->(v=.ns\/k.num≠v.blk.num)->h' k=h k):w=.ns\/h' w.blk=h w.blk:=by
 rcases h1 with l | l
 ·exact Or.inl l
 ·rcases h2 with g | g | g
  ·exact Or.inl g
  ·exact Or.inr (hs _ l (Or.inl g))
  ·exact Or.inr (hs _ l (Or.inr g))
def RG(h:Hf)(n:K)(v:V)(x:Nd)(p:V×V):Prop:=dV h n p.1 x.vars/\fh h n .i64 p.2 x.kids/\dE p.1 v/\dE p.2 v
def RG.to{h h':Hf}{n:K}{v v':V}{x:Nd}{p:V×V}(a:RG h n v x p)(hs:∀k:K,k.num<n.num->(v=.ns\/k.num≠v.blk.num)->h' k=h k)(hv:v'=v\/n.num<=v'.blk.num):RG h' n v' x p:=by
 have l1:=κ.dT a.1;have l2:=κ.dT a.2.1;refine⟨κ.iI a.1 (dE.cW l1 a.2.2.1 hs) (ξ _),κ.iI a.2.1 (dE.cW l2 a.2.2.2 hs) (ξ _),?_,?_⟩
 ·rcases hv with g | g
  ·rw[g];exact a.2.2.1
  ·exact dE.of l1 (Or.inr g)
 ·rcases hv with g | g
  ·rw[g];exact a.2.2.2
  ·exact dE.of l2 (Or.inr g)
def RG.up{h:Hf}{n n':K}{v:V}{x:Nd}{p:V×V}(a:RG h n v x p)(b:n.num<=n'.num):RG h n' v x p:=⟨κ.up a.1 b,κ.up a.2.1 b,a.2.2⟩
def TO.on{h h':Hf}{lo n:K}{v:V}{us:List Nd}{m:List (V×V)}(a:TO h lo n v us m)(hs:∀k:K,lo.num<=k.num->k.num<n.num->h' k=h k):TO h' lo n v us m:=by
 have key:∀{w:V},(w=.ns\/w.blk.num<n.num)->(w=.ns\/lo.num<=w.blk.num)->w=.ns\/h' w.blk=h w.blk:=by
  intro w h1 h2;rcases h1 with g | g
  ·exact Or.inl g
  ·rcases h2 with k | k
   ·exact Or.inl k
   ·exact Or.inr (hs _ k g)
 refine⟨κ.iI a.sl (key (κ.dT a.sl) a.ge) (ξ _),dw.mono (λx p r=>?_) a.rows,a.pw,a.ge⟩;have d:=key (κ.dT r.b) r.vr;have c:=key (κ.dT r.k) r.kr;refine⟨κ.iI r.b d (ξ _),κ.iI r.k c (ξ _),?_,r.kr,r.vr,r.vk,r.vt,r.kt⟩;rcases r.ko with g | g
 ·exact Or.inl g
 ·rcases c with e | e
  ·have:=g.1;rw[e]at this;cases this
  ·exact Or.inr ⟨g.1,by rw[e];exact g.2⟩
section
variable {h0 hS:Hf}{lo n0 n1:K}{f:Nat}{ts us:List Nd}{v vc vo:V}{mc mo:List (V×V)}
def alk(hlen:ts.length<100000)(hf:f<1000000)(A:∀i (hi:i<ts.length),ts[i].kids.length<1000000)(B:∀i (hi:i<ts.length),∀k∈ts[i].kids,0<=k/\k<1000000){i:Nat}(hi:i<ts.length)(P:mc.length=ts.length){b:K}(hb:n1.num<=b.num){Q1:Ex->Env->Hf->K->Prop}{L:Nat}{hI:Hf}
 (D:hI b=some (.c (cB ts[i] (mc[i]'(by omega)).1 (mc[i]'(by omega)).2) 35 0))
 (E:∀a h E',(∀k:K,((mc[i]'(by omega)).2=.ns\/k.num≠(mc[i]'(by omega)).2.blk.num)->h k=hI k)->TO h lo n1 vc a mc->pE (λx=>x+(f:Int)) ts a (i+1) 0->Θ [(k0,v),(k5,iN f),(lW,vc),(pT,iN L),(vC,iN i),(k7,.p b 0)] E'->Q1 .normal E' h n):
 ∀(r k:Nat) (a:List Nd) (h:Hf),ts[i].kids.length - k=r->k<=ts[i].kids.length->(∀k:K,((mc[i]'(by omega)).2=.ns\/k.num≠(mc[i]'(by omega)).2.blk.num)->h k=hI k)->TO h lo n1 vc a mc->pE (λx=>x+(f:Int)) ts a i k->WC C aeU [(k0,v),(k5,iN f),(lW,vc),(pT,iN L),(vC,iN i),(k7,.p b 0),(G4,.i .i64 (ts[i].kids.length:Nat)),(G5,iN k)] h n (blk 2 Q1):=by
 intro r
 induction r with
 | zero=>
  intro k a h F G he s d;have H:k=ts[i].kids.length:=by omega
  subst H;refine aF ?_;refine ε<|aH U U<|δ ?_;exact φ<|az U (by simp)<|bG (E a h _ he s (pE.next (by rw[aX hi];exact d)) (Θ.rf U))
 | succ r ih=>
  intro k a h F G he s d;have t:k<ts[i].kids.length:=by omega
  have l:i<a.length:=by rw[d.len];exact hi
  have u:i<mc.length:=by omega
  have m:=s.rows.get i l u;have hl:a[i].kids.length=ts[i].kids.length:=by rw[d.at_ l hi];exact CF _ _ _
  have j:k<a[i].kids.length:=by omega
  have w:=m.k.get j 1;have I:a[i].kids[k]=ts[i].kids[k]:=by
   have e:=d.at_ l hi;have:a[i].kids=shl (λx=>x+(f:Int)) k ts[i].kids:=by rw[e];rfl
   simp only[this];exact Tn t
  rw[I]at w;have R:=B i hi ts[i].kids[k] (bL _);have S:=A i hi;have o:mc[i].2=.su mc[i].2.blk 0 a[i].kids.length 1/\h mc[i].2.blk=some (.c (dX .i64 a[i].kids) 3 0):=by
   rcases m.ko with g | g
   ·simp[g]at j
   ·exact g
  have T:mc[i].2.blk.num<n1.num:=by
   rcases κ.dT m.k with g | g
   ·rw[g]at o;cases o.1
   ·exact g
  have J:mc[i].2.off=0:=by rw[o.1];rfl
  have M:=(he b (Or.inr (by omega))).trans D;refine aF ?_;refine ε<|aH U U<|δ ?_;refine φ<|ax U (by simp<;>omega)<|ay ?_;refine φ<|aA<|ε<|γ U<|γ U<|δ ?_;refine aP<|χ U<|ν U (cH M rfl _)<|γ U<|aV U U m.k j<|ν U w<|γ U<|cj U U ⟨by omega,by omega⟩<|aV U U m.k j<|aR U U o.2 (CB (i:=k) j _ (by rw[J];omega)) <| λh1 N b1=>δ ?_;have y:bA mc[i].2.blk h h1:=b1;have O:h1 mc[i].2.blk=some (.c (dX .i64 (a[i].kids.set k (ts[i].kids[k]+f))) 3 0):=N;refine aP<|cj U U ⟨by omega,by omega⟩<|γ U<|δ ?_;exact au (ih (k+1) _ h1 (by omega) (by omega) (λq z=>(y q (z.resolve_left (by rw[o.1];intro h;cases h))).trans (he q z)) (s.Tm l u j y O) (d.set l hi t)) (Θ.rf U)
def alo(hlen:ts.length<100000)(hf:us.length=f)(KZ:f<1000000)(J:∀i (hi:i<ts.length),ts[i].kids.length<1000000)(nM:∀i (hi:i<ts.length),∀k∈ts[i].kids,0<=k/\k<1000000)(hmc:mc.length=ts.length)(hmo:mo.length=us.length)
 (fG:n0.num<=lo.num)(dd:lo.num<=n1.num)(hvo:vo=.ns\/vo.blk.num<lo.num){Q1:Ex->Env->Hf->K->Prop}
 (hQ:∀v h n E',Gr h0 n0 h n 35 5 v (us.length+ts.length) (bJ (us++ts.map (lM λx=>x+(f:Int))) (mo++mc))->(v=vo\/n1.num<=v.blk.num)->dw (RG h lo v) us mo->TO h lo n1 vc (ts.map (lM λx=>x+(f:Int))) mc->n1.num<=n.num->(∀k:K,k.num<lo.num->(vo=.ns\/k.num≠vo.blk.num)->h k=hS k)->Θ [(k0,v)] E'->Q1 .normal E' h n):
 ∀(r i:Nat) (v:V) (d:List Nd) (h:Hf) (n:K),ts.length - i=r->i<=ts.length->n1.num<=n.num->Gr h0 n0 h n 35 5 v (us.length+i) (bJ (us++(ts.take i).map (lM λx=>x+(f:Int))) (mo++mc.take i))->(v=vo\/n1.num<=v.blk.num)->dw (RG h lo v) us mo->TO h lo n1 vc d mc->pE (λx=>x+(f:Int)) ts d i 0->(∀k:K,k.num<lo.num->(vo=.ns\/k.num≠vo.blk.num)->h k=hS k)->WC C RH [(k0,v),(k5,iN f),(lW,vc),(pT,iN ts.length),(vC,iN i)] h n (blk 0 Q1):=by
 intro r
 induction r with
 | zero=>
  intro i v d h n hr hi w y hv B l o hS;have:i=ts.length:=by omega
  subst this;rw[fO,ot (by omega)]at y;have e:=o.done;subst e;refine aF ?_;refine ε<|aH U U<|δ ?_;exact φ<|az U (by simp)<|bG (hQ v h n _ y hv B l w hS (Θ.rf U))
 | succ r ih=>
  intro i v d h n hr hi w y hv B l o hS;have m:i<ts.length:=by omega
  have q:i<d.length:=by rw[o.len];exact m
  have z:i<mc.length:=by omega
  have M:=l.rows.get i q z;have N:d[i]=ts[i]:=by rw[o.at_ q m,KA];rfl
  have fg:bc h true 5 (.p vc.blk (vc.off+i*5))=some (.a (cB ts[i] mc[i].1 mc[i].2)):=by have:=l.sl.jG (i:=i*5) (sz:=5) (by omega) (by omega);rw[we l.rows.len q,N]at this;exact this
  have D:=nO ts[i] (κ.one M.b) (κ.one M.k);have Lp:=J i m;refine aF ?_;refine ε<|aH U U<|δ ?_;refine φ<|ax U (by simp<;>omega)<|ay ?_;refine φ<|aA<|ε<|aV U U l.sl q<|ν U fg<|bN <| λh2 O iw a2 e2=>aR U U a2 (bS rfl rfl D) <| λj a3 b3=>δ ?_;have wX:bA n h2 j:=b3;have s:Ext h n j O:=e2.Ξ wX (ξ _);have E:j n=some (.c (cB ts[i] mc[i].1 mc[i].2) 35 0):=a3;have P:TO j lo n1 vc d mc:=l.on λk _ h2=>s.2 k (by omega);have R:=(P.rows.get i q z).k;rw[N]at R;have A:=y.on s;have Oi:dw (RG j lo v) us mo:=dw.mono (λx p a=>a.to (λk h1 _=>s.2 k (by omega)) (Or.inl U)) B;refine φ<|ε<|χ U<|ν U (cH E rfl _)<|aJ U R<|γ U<|δ ?_;refine aA<|au (alk (L:=ts.length) (b:=n) (hI:=j) hlen KZ J nM m hmc w E ?_ _ 0 d j rfl (by omega) (λ_ _=>rfl) P o) (Θ.rf U);intro uc4 F E4 b4 S c4 s4;refine dO s4 ?_;have T:=S.rows.get i (by rw[c4.len];exact m) z;have alq:mc[i].2=.ns\/(lo.num<=mc[i].2.blk.num/\mc[i].2.blk.num<n1.num):=by
   rcases T.kr with g | g
   ·exact Or.inl g
   ·exact(κ.dT T.k).imp id λk=>⟨g,k⟩
  have t:∀k:K,(k.num<lo.num\/n1.num<=k.num)->F k=j k:=λk W=>b4 k (alq.imp id λg=>by omega);have X:v=.ns\/(v.blk.num<lo.num\/n1.num<=v.blk.num):=by
   rcases hv with g | g
   ·rw[g];exact hvo.imp id Or.inl
   ·exact Or.inr (Or.inr g)
  have G:Gr h0 n0 F O 35 5 v (us.length+i) (bJ (us++(ts.take i).map (lM λx=>x+(f:Int))) (mo++mc.take i)):=
   ⟨⟨A.ext.1,λk W=>by rw[t k (Or.inl (by omega)),A.ext.2 k W]⟩,A.own.ext (X.imp id λg=>t _ g),A.at_⟩
  have a4:=(t n (Or.inr w)).trans E;have n02:=s.1;refine aP<|γ U<|ν U (bP a4 (kC rfl))<|jJ (FX rfl D rfl) <| λh6 n6 jh a6 u=>uq U ((G.on u).own) U (κ.whole (len:=1) (by omega) a6 rfl) (by omega) (by omega) (by omega) (by omega) D ((G.on u).lt) <| λv8 Y n8 o8 H yW Z=>γ U<|δ ?_;have g8:=(G.on u).app o8 H yW Z;have n06:=u.1;have KG:bJ (us++(ts.take i).map (lM λx=>x+(f:Int))) (mo++mc.take i)++cB ts[i] mc[i].1 mc[i].2=bJ (us++(ts.take (i+1)).map (lM λx=>x+(f:Int))) (mo++mc.take (i+1)):=by rw[gm m,gm z,List.map_append,←ku,←ku];exact(zR (by simp;omega) [lM (λx=>x+(f:Int)) ts[i]] [mc[i]]).symm
  rw[KG]at g8;have I:∀k:K,k.num<n1.num->(v=.ns\/k.num≠v.blk.num)->Y k=F k:=λk h1 h2=>by rw[Z k (by omega) h2,u.2 k (by omega)]
  refine aP<|cj U U ⟨by omega,by omega⟩<|γ U<|δ ?_;refine au (ih (i+1) v8 uc4 Y n8 (by omega) (by omega) (by omega) g8 (Or.inr (by rw[H];omega)) (dw.mono (λx p a=>a.to (λk h1 h2=>by rw[I k (by omega) h2,t k (Or.inl h1)]) (Or.inr (by rw[H];omega))) Oi) (S.on λk h1 h2=>I k h2 (X.imp id λg=>by omega)) c4 λk h1 h2=>?_) (Θ.rf U);rw[I k (by omega) (hv.elim (λg=>by rw[g];exact h2) (λg=>Or.inr (by omega))),t k (Or.inl h1),s.2 k (by omega),hS k h1 h2]
end
def alr(o:Cd C){h0:Hf}{n0:K}{vo t:V}{us ts:List Nd}{mo:List (V×V)}(c:Gr h0 n0 h n 35 5 vo us.length (bJ us mo))(q:dw (RG h n vo) us mo)(s:us.length<1000000)(ht:bK h n t ts)(hb:Bd ts)(u:∀i (hi:i<ts.length),∀k∈ts[i].kids,0<=k/\k<1000000)
 (w:∀v' mc h' n',n.num<=n'.num->Gr h0 n0 h' n' 35 5 v' (us++ts.map (lM λx=>x+(us.length:Int))).length (bJ (us++ts.map (lM λx=>x+(us.length:Int))) (mo++mc))->dw (RG h' n' v') (us++ts.map (lM λx=>x+(us.length:Int))) (mo++mc)->(∀k:K,k.num<n.num->(vo=.ns\/k.num≠vo.blk.num)->h' k=h k)->(v'=vo\/n.num<=v'.blk.num)->(∀p∈mc,(p.1=.ns\/n.num<=p.1.blk.num)/\(p.2=.ns\/n.num<=p.2.blk.num))->Q v' h' n'):μ C (.f 200 [] []) [vo,t] h n Q:=by
 refine μ.go o.f200 U ?_;have hlen:=hb.len;refine ε<|γ U<|δ ?_;refine ε<|γ U<|aJ U c.sl<|γ U<|δ ?_;refine φ<|ε<|γ U<|ah U U<|F9 o ht hb <| λvc mc h1 n1 d e=>aJ U e.sl<|γ U<|δ ?_;have y:=e.rows.len;have g1:=c.on d;have z:dw (RG h1 n vo) us mo:=dw.mono (λx p a=>a.to (λk h1 _=>d.2 k h1) (Or.inl U)) q;refine aA<|au (alo (hS:=h) (lo:=n) (n1:=n1) hlen rfl s hb.jM u y q.len c.ext.1 d.1 c.lt ?_ _ 0 vo ts h1 n1 rfl (by omega) (ξ _) (by simpa using g1) (Or.inl U) z e (pE.start _ _) (λk h1 _=>d.2 k h1)) (Θ.rf U);intro v h2 A E2 B l D m r E F;refine dO F ?_;have G:=d.1;refine ε<|γ U<|γ U<|δ (aj ⟨_,rfl,w v mc h2 A (by omega) (by simpa using B) ?_ E (l.imp id λg=>by omega) λp hp=>?_⟩)
 rotate_left
 ·obtain⟨j,hj,rfl⟩:=fD hp;have:=m.rows.get j (by rw[←m.rows.len];exact hj) hj;exact⟨this.vr,this.kr⟩
 refine dw.app (dw.mono (λx p a=>a.up (by omega)) D) (dw.mono (λx p a=>⟨κ.up a.b r,κ.up a.k r,?_,?_⟩) m.rows)
 ·rcases l with g | g
  ·rw[g];exact(dE.of c.lt a.vr).symm
  ·exact dE.of (κ.dT a.b) (Or.inr g)
 ·rcases l with g | g
  ·rw[g];exact(dE.of c.lt a.kr).symm
  ·exact dE.of (κ.dT a.k) (Or.inr g)
end
section
variable {C:Nat->Option aE}{h:Hf}{n:K}{Q:V->Hf->K->Prop}
def gD(s:List Nd×List Int)(t:List Nd):List Nd×List Int:=
 (s.1++t.map (lM λx=>x+(s.1.length:Int)),s.2++[((s.1.length+t.length:Nat):Int) - 1])
def gK(l:List (List Nd)):List Nd×List Int:=l.foldl gD ([],[])
def cM(x:Nd)(l:List (List Nd)):List Nd:=(gK l).1++[wk x (gK l).2]
def lens:List (List Nd)->Nat
 | []=>0
 | t::l=>t.length+lens l
def Ga{l:List (List Nd)}{i:Nat}(hi:i<l.length):gK (l.take (i+1))=gD (gK (l.take i)) l[i]:=by show(l.take (i+1)).foldl gD _=_;rw[gm hi,List.foldl_append];rfl
def als:∀(l:List (List Nd)) (s:List Nd×List Int),(l.foldl gD s).1.length=s.1.length+lens l/\(l.foldl gD s).2.length=s.2.length+l.length:=by
 intro l
 induction l with
 | nil=>intro s;simp[lens]
 | cons t l ih=>
  intro s;have h1:=ih (gD s t);have h2:(gD s t).1.length=s.1.length+t.length:=by simp[gD]
  have a:(gD s t).2.length=s.2.length+1:=by simp[gD]
  refine⟨h1.1.trans ?_,h1.2.trans ?_⟩
  ·rw[h2];simp only[lens];omega
  ·rw[a];simp only[eh];omega
def qF(l:List (List Nd)):(gK l).1.length=lens l/\(gK l).2.length=l.length:=by have:=als l ([],[]);simpa[gK]using this
def Lt:∀(l:List (List Nd)) (i:Nat),lens (l.take i)<=lens l:=by
 intro l
 induction l with
 | nil=>intro i;simp
 | cons t l ih=>intro i;cases i with | zero=>simp[lens] | succ i=>have:=ih i;simp[lens];omega
structure Kd(l:List (List Nd)):Prop where
 len:l.length<100000
 sum:lens l<1000000
 bd:∀i (hi:i<l.length),Bd l[i]
 kr:∀i (hi:i<l.length),∀j (hj:j<l[i].length),∀k∈l[i][j].kids,0<=k/\k<1000000
section
variable {h0 h1:Hf}{n0 n1:K}{vt:V}{l:List (List Nd)}{x:Nd}{vv:V}
def nQ.get{h:Hf}{n:K}{v:V}{l:List (List Nd)}(a:nQ h n v l){i:Nat}(hi:i<l.length):∃w,bc h false 1 (.p v.blk (v.off+i*1))=some w/\bK h n w l[i]:=by obtain⟨hs,h1,h2,b⟩:=a;exact⟨hs[i]'(by omega),h2.get (by rw[kp];exact KB (by omega)) 1,b i (by omega) hi⟩
def nQ.sl{h:Hf}{n:K}{v:V}{l:List (List Nd)}(a:nQ h n v l):∃hs,κ h n 1 v l.length hs:=⟨a.choose,a.choose_spec.2.1⟩
def dw.and{P:Nd->V×V->Prop}{P':V×V->Prop}:∀{ts:List Nd} {m:List (V×V)},dw P ts m->(∀p∈m,P' p)->dw (λx p=>P x p/\P' p) ts m:=by
 intro ts
 induction ts with
 | nil=>intro m h _;cases m with | nil=>trivial | cons=>exact h.elim
 | cons x ts ih=>intro m h g;cases m with | nil=>exact h.elim | cons p m=>exact⟨⟨h.1,g p (by simp)⟩,ih h.2 λq a=>g q (by simp[a])⟩
def PK(a:V)(b:K)(p:V×V):Prop:=(dE p.1 a/\dE p.2 a)/\(p.1=.ns\/b.num<p.1.blk.num)/\(p.2=.ns\/b.num<p.2.blk.num)
def alu(hC:Cd C)(u:Kd l)(T:nQ h0 n0 vt l){Q1:Ex->Env->Hf->K->Prop}
 (hQ:∀v b m h n E',n0.num<n.num->Gr h0 n0 h n 35 5 v (gK l).1.length (bJ (gK l).1 m)->dw (RG h n v) (gK l).1 m->Gr h0 n0 h n 3 1 b (gK l).2.length (dX .i64 (gK l).2)->(v=.ns\/n0.num<v.blk.num)->(b=.ns\/n0.num<b.blk.num)->dE b v->(∀p∈m,PK b n0 p)->h n0=some (.c (cB x vv b) 35 0)->Θ [(k2,.p n0 0),(k5,v)] E'->Q1 .normal E' h n):
 ∀(r i:Nat) (v b:V) (m:List (V×V)) (h:Hf) (n:K),l.length - i=r->i<=l.length->n0.num<n.num->Gr h0 n0 h n 35 5 v (gK (l.take i)).1.length (bJ (gK (l.take i)).1 m)->dw (RG h n v) (gK (l.take i)).1 m->Gr h0 n0 h n 3 1 b i (dX .i64 (gK (l.take i)).2)->(v=.ns\/n0.num<v.blk.num)->(b=.ns\/n0.num<b.blk.num)->dE b v->(∀p∈m,PK b n0 p)->h n0=some (.c (cB x vv b) 35 0)->WC C aeC [(k2,.p n0 0),(k5,v),(k9,vt),(oK,iN l.length),(sx,iN i)] h n (blk 0 Q1):=by
 have iF:=u.len;have alv:=u.sum;intro r
 induction r with
 | zero=>
  intro i v b m h n B hi M q D s E F G N O;have:i=l.length:=by omega
  subst this;rw[fO]at q D s;refine aF ?_;refine ε<|aH U U<|δ ?_;exact φ<|az U (by simp)<|bG (hQ v b m h n _ M q D (by rw[(qF l).2];exact s) E F G N O (Θ.rf U))
 | succ r ih=>
  intro i v b m h n B hi M q D s E F G N O;have d:i<l.length:=by omega
  obtain⟨w,hw,tw⟩:=(T.ext q.ext).get d;obtain⟨cs,hs⟩:=(T.ext q.ext).sl;have Zf:=(qF (l.take i)).1;have eB:=(qF (l.take i)).2;have Zg:=Lt l i;have auK:=Lt l (i+1);have W:=(qF (l.take (i+1))).1;rw[Ga d]at W;simp only[gD,jz,ji]at W;have Lp:(gK (l.take i)).2.length=i:=by rw[eB];simp;omega
  refine aF ?_;refine ε<|aH U U<|δ ?_;refine φ<|ax U (by simp<;>omega)<|ay ?_;refine φ<|aA<|ε<|aV U U hs d<|ν U hw<|γ U<|δ ?_;refine ε<|γ U<|γ U<|ah U U<|alr hC q D (by omega) tw (u.bd i d) (u.kr i d) <| λv' y h2 H iw o P X Y alw=>γ U<|δ ?_;have I:=s.lt;have Z:h2 n0=some (.c (cB x vv b) 35 0):=(X n0 M (E.imp id λg=>by omega)).trans O;have kk2:b=.ns\/h2 b.blk=h b.blk:=dE.cW I G X;have gk2:Gr h0 n0 h2 H 3 1 b i (dX .i64 (gK (l.take i)).2):=⟨o.ext,s.own.ext kk2,s.at_.imp id λg=>⟨g.1,by omega⟩⟩;have v1':v'=.ns\/n0.num<v'.blk.num:=by
   rcases Y with g | g
   ·rw[g];exact E
   ·exact Or.inr (by omega)
  have kv2:dE b v':=by
   rcases Y with g | g
   ·rw[g];exact G
   ·exact dE.of I (Or.inr g)
  have pk2:∀p∈m++y,PK b n0 p:=by
   intro p hp;rcases eG.1 hp with g | g
   ·exact N p g
   ·have:=alw p g;exact⟨⟨(dE.of I this.1).symm,(dE.of I this.2).symm⟩,this.1.imp id λg=>by omega,this.2.imp id λg=>by omega⟩
  have Lv:((gK (l.take i)).1++l[i].map (lM λx=>x+((gK (l.take i)).1.length:Int))).length=(gK (l.take i)).1.length+l[i].length:=by simp
  refine aP<|χ U<|ν U (cH Z rfl _)<|γ U<|aJ U o.sl<|py U U (show(((gK (l.take i)).1++l[i].map (lM λx=>x+((gK (l.take i)).1.length:Int))).length:Int) - 1=(((gK (l.take i)).1.length+l[i].length:Nat):Int) - 1 by rw[Lv]) ⟨by omega,by omega⟩<|jJ (rP rfl rfl rfl) <| λJ n3 kh a3 t=>uq U ((gk2.on t).own) U (κ.whole (len:=1) (by omega) a3 rfl) (by omega) (by omega) (by omega) (by omega) U ((gk2.on t).lt) <| λL h4 z o4 A mQ s4=>χ U<|aR U U ((s4 n0 (by have:=t.1;omega) (F.imp id λg=>by omega)).trans ((t.2 n0 (by omega)).trans Z)) (FW o4.cells o4.one) <| λf a5 b5=>δ ?_;have wZ:bA n0 h4 f:=b5;have n23:=t.1;have R:∀k:K,k.num<H.num->k.num≠n0.num->(b=.ns\/k.num≠b.blk.num)->f k=h2 k:=λk h1 h2 J=>by rw[wZ k h2,s4 k (by omega) J,t.2 k h1]
  have cW:∀{w:V},(w=.ns\/w.blk.num<H.num)->(w=.ns\/n0.num<w.blk.num)->dE b w->w=.ns\/f w.blk=h2 w.blk:=by
   intro w h1 h2 J;rcases h1 with g | g
   ·exact Or.inl g
   ·rcases h2 with k | k
    ·exact Or.inl k
    ·rcases J with e | e | e
     ·exact Or.inr (R _ g (by omega) (Or.inl e))
     ·exact Or.inl e
     ·exact Or.inr (R _ g (by omega) (Or.inr (Ne.symm e)))
  have x5:Ext h0 n0 f z:=o.ext.trans' (by omega) λk u=>R k (by omega) (by omega) (F.imp id λg=>by omega);have g5:Gr h0 n0 f z 35 5 v' ((gK (l.take i)).1++l[i].map (lM λx=>x+((gK (l.take i)).1.length:Int))).length (bJ ((gK (l.take i)).1++l[i].map (lM λx=>x+((gK (l.take i)).1.length:Int))) (m++y)):=
   ⟨x5,o.own.ext (cW o.lt v1' kv2),o.at_.imp id λg=>⟨g.1,by omega⟩⟩
  have ro5:dw (RG f z v') ((gK (l.take i)).1++l[i].map (lM λx=>x+((gK (l.take i)).1.length:Int))) (m++y):=
   dw.mono (λx p a=>⟨κ.iI a.1.1 (cW (κ.dT a.1.1) a.2.2.1 a.2.1.1.symm) (by omega),κ.iI a.1.2.1 (cW (κ.dT a.1.2.1) a.2.2.2 a.2.1.2.symm) (by omega),a.1.2.2⟩) (P.and pk2)
  have gk5:Gr h0 n0 f z 3 1 L (i+1) (dX .i64 ((gK (l.take i)).2++[(((gK (l.take i)).1.length+l[i].length:Nat):Int) - 1])):=by refine⟨x5,?_,Or.inr ⟨by rw[A];omega,by rw[A];omega⟩⟩;rw[ac1];exact o4.ext (Or.inr (wZ _ (by rw[A];omega)))
  have S:∀{w:V},(w=.ns\/w.blk.num<H.num)->dE w L:=λh=>dE.of h (Or.inr (by rw[A];omega));have pk5:∀p∈m++y,PK L n0 p:=by intro p hp;obtain⟨j,hj,rfl⟩:=fD hp;have B:=P.get j (by rw[←P.len];exact hj) hj;have:=pk2 _ hp;exact⟨⟨S (κ.dT B.1),S (κ.dT B.2.1)⟩,this.2⟩
  refine aP<|cj U U ⟨by omega,by omega⟩<|γ U<|δ ?_;refine au (ih (i+1) v' L (m++y) f z (by omega) (by omega) (by omega) ?_ ?_ ?_ v1' (Or.inr (by rw[A];omega)) (S o.lt).symm pk5 a5) (Θ.rf U)
  ·rw[Ga d];exact g5
  ·rw[Ga d];exact ro5
  ·rw[Ga d];exact gk5
end
def alB(t:Cd C){vt vv kv:V}{x:Nd}{l:List (List Nd)}(u:Kd l)(D:nQ h n vt l)(hv:dV h n vv x.vars)(T:kv.one=true)(om:x.vars.length<1000000)
 (W:∀v h' n',Ext h n h' n'->TG h' n n' v (cM x l)->Q v h' n'):μ C (.f 120 [] []) [.a (cB x vv kv),vt] h n Q:=by
 refine μ.go t.f120 U ?_;have X:=nO x (κ.one hv) T;have iF:=u.len;have alv:=u.sum;refine ε<|eL U U X <| λh1 n1 dd Y Z=>γ U<|δ ?_;refine ε<|γ U<|δ ?_;refine ε<|χ U<|aR U U Y (FW rfl rfl) <| λh2 a2 b2=>δ ?_;have Bf:bA n h1 h2:=b2;have x2:Ext h n h2 n1:=Z.Ξ Bf (ξ _);obtain⟨cs,hs⟩:=(D.ext x2).sl;refine φ<|ε<|γ U<|aJ U hs<|γ U<|δ ?_;refine aA<|au (alu (x:=x) (vv:=vv) t u D ?_ _ 0 .ns .ns [] h2 n1 rfl (by omega) (by omega) (Gr.ns x2) trivial (Gr.ns x2) (Or.inl U) (Or.inl U) (Or.inl U) (λp hp=>by cases hp) a2) (Θ.rf U);intro v d m q n3 E3 kh y E F v1 k1 kv3 G H s3;refine dO s3 ?_;have hv3:=κ.ext hv y.ext;have Zf:=(qF l).1;refine ε<|χ U<|ν U (cH H rfl _)<|ah U U<|Lo t hv3 (by omega) <| λb z A x4 o4 I=>χ U<|aR U U ((x4.2 n kh).trans H) (FV o4.sl.cells o4.sl.one) <| λJ a5 b5=>δ ?_;have L:bA n z J:=b5;have n34:=x4.1;have M:=nO (wk x (gK l).2) o4.sl.one F.sl.one;have B:=(y.on x4).Ξ L (ξ _) (v1.imp id λg=>by omega);have YP:J n=some (.c (cB (wk x (gK l).2) b d) 35 0):=a5;refine ε<|γ U<|ν U (bP YP (kC rfl))<|jJ (FX rfl M rfl) <| λh6 n6 jh a6 j=>uq U ((B.on j).own) U (κ.whole (len:=1) (by omega) a6 rfl) (by omega) (by omega) (by omega) (by omega) M ((B.on j).lt) <| λv8 o r o8 N yW O=>γ U<|δ<|aj ⟨_,rfl,?_⟩;have n46:=j.1;have P:=(B.on j).app o8 N yW O;have vlt:=y.lt;have R:∀k:K,k.num<A.num->k.num≠n.num->(v=.ns\/k.num≠v.blk.num)->o k=z k:=λk h1 h2 q=>by rw[O k (by omega) q,j.2 k h1,L k h2]
 have cW:∀{w:V},(w=.ns\/w.blk.num<A.num)->(w=.ns\/n.num<w.blk.num)->dE w v->w=.ns\/o w.blk=z w.blk:=by
  intro w h1 h2 q;rcases h1 with g | g
  ·exact Or.inl g
  ·rcases h2 with k | k
   ·exact Or.inl k
   ·rcases q with e | e | e
    ·exact Or.inl e
    ·exact Or.inr (R _ g (by omega) (Or.inl e))
    ·exact Or.inr (R _ g (by omega) (Or.inr e))
 have s:A.num<=r.num:=by omega
 have S:b=.ns\/n.num<b.blk.num:=I.imp id λg=>by omega
 have rows:dw (λx p=>dV o r p.1 x.vars/\fh o r .i64 p.2 x.kids) (cM x l) (m++[(b,d)]):=by
  refine dw.app (dw.mono (λx p a=>?_) (E.and G)) ⟨⟨?_,?_⟩,trivial⟩
  ·have b1:=κ.ext a.1.1 x4;have k1:=κ.ext a.1.2.1 x4;exact⟨κ.iI b1 (cW (κ.dT b1) a.2.2.1 a.1.2.2.1) s,κ.iI k1 (cW (κ.dT k1) a.2.2.2 a.1.2.2.2) s⟩
  ·exact κ.iI o4.sl (cW (κ.dT o4.sl) S (dE.of vlt I).symm) s
  ·have k3:=κ.ext F.sl x4;exact κ.iI k3 (cW (κ.dT k3) k1 kv3) s
 have wk4:b=.ns\/n.num<=b.blk.num:=S.imp id λg=>by omega
 have wkk:d=.ns\/n.num<=d.blk.num:=k1.imp id λg=>by omega
 refine W v8 o r P.ext ⟨m++[(b,d)],⟨rows.len,?_,λi hi=>rows.get i hi (by rw[rows.len];exact hi)⟩,Or.inr (by rw[N];omega),λp hp=>?_⟩
 rotate_left
 ·rcases eG.1 hp with g | g
  ·have:=G p g;exact⟨this.2.1.imp id λg=>by omega,this.2.2.imp id λg=>by omega⟩
  ·rw[gF]at g;subst g;exact⟨wk4,wkk⟩
 have:=P.sl;unfold cM;rw[zR E.len,jz];exact this
end
section
variable {C:Nat->Option aE}{h:Hf}{n:K}{Q:V->Hf->K->Prop}
section
variable {h1:Hf}{n1 b:K}{x:Nd}{vv kv u1 u2 u5 u6 u8:V}{f:Nat}
end
section
variable {h0 hS:Hf}{n0 nS:K}{us ts:List Nd}{vo vt w u2:V}{mo:List (V×V)}{i:Nat}{l:List (List Nd)}
end
section
variable {h0:Hf}{n0:K}{vt:V}{l:List (List Nd)}{x:Nd}{vv:V}
end
end
section
variable {C:Nat->Option aE}{h:Hf}{n:K}{Q:V->Hf->K->Prop}
def w90(k:Cd C){t:V}{ts:List Nd}{m:List (V×V)}(ht:kJ h n t ts m)(hlen:ts.length<1000000)(h0:0<ts.length)
 (l:∀h' n' vv kv,Ext h n h' n'->m[ts.length - 1]?=some (vv,kv)->dV h n vv (ts[ts.length - 1]'(by omega)).vars->fh h n .i64 kv (ts[ts.length - 1]'(by omega)).kids->Q (.a (cB (ts[ts.length - 1]'(by omega)) vv kv)) h' n'):μ C (.f 90 [] []) [t] h n Q:=by
 refine μ.go k.f90 U ?_;have b:ts.length - 1<ts.length:=by omega
 have hm:=ht.choose;obtain⟨_,hs,d⟩:=ht;have o:=we hm b;have hb:=(d _ b).1;have e:=(d _ b).2;refine ε<|bN <| λh1 n1 s p g=>δ ?_;have c:=hs.ext g;have j:=c.jG (i:=(ts.length - 1)*5) (sz:=5) (by omega) (by omega);rw[o]at j;have q:=nO ts[ts.length - 1] (κ.one hb) (κ.one e);refine ε<|γ U<|γ U<|aJ U c<|py U U (show(ts.length:Int) - 1=((ts.length - 1:Nat):Int) by omega) ⟨by omega,by omega⟩<|aV U U c b<|ν U j<|aR U U p (bS rfl rfl q) <| λh2 r b2=>δ ?_;refine aj ⟨_,jI rfl (bP r (kC rfl)),?_⟩;exact l h2 n1 _ _ (g.Ξ b2 (ξ _)) (by rw[aX]) hb e
def bK.nil(h:Hf)(n:K):bK h n .ns []:=⟨[],rfl,κ.ns h n 5,λi hi=>by simp at hi⟩
end
section
variable {C:Nat->Option aE}{h:Hf}{n:K}{Q:V->Hf->K->Prop}
section
variable {v:V}{l:List (List (List Nd))}
end
end
section
variable {C:Nat->Option aE}{h:Hf}{n:K}{Q:V->Hf->K->Prop}
def Bj(h0:Hf)(n0:K)(h:Hf)(n:K)(v:V)(l:List (List Nd))(hs:List V):Prop:=
 hs.length=l.length/\Gr h0 n0 h n 23 1 v l.length hs/\∀j (h1:j<hs.length) (h2:j<l.length),v≠.ns/\bK h v.blk hs[j] l[j]
section
variable {h0 h4 h5:Hf}{n0 n4 n5:K}{v v5 w:V}{l:List (List Nd)}{hs:List V}{t:List Nd}
def Bj.nil(e:Ext h0 n0 h n):Bj h0 n0 h n .ns [] []:=⟨rfl,Gr.ns e,λj h1=>by simp at h1⟩
def Bj.app(a:Bj h0 n0 h n v l hs)(x:Ext h n h4 n4)(ht:bK h5 n4 w t)(o5:dB h5 23 1 v5 (l.length+1) (hs++[w]))(c:v5.blk=n4)(f:n5.num=n4.num+1)(d:∀b:K,b.num<n4.num->(v=.ns\/b.num≠v.blk.num)->h5 b=h4 b):Bj h0 n0 h5 n5 v5 (l++[t]) (hs++[w]):=by
 obtain⟨h1,h2,g⟩:=a;have i:=(h2.on x).app o5 c f d;have m:v5≠.ns:=by intro e;have:=o5.nil e;omega
 refine⟨by simp[h1],by rw[jz];exact i,λj g1 r=>⟨m,?_⟩⟩;by_cases hj:j<hs.length
 ·rw[List.getElem_append_left hj,List.getElem_append_left (by omega)];obtain⟨o,p⟩:=g j hj (by omega);have s:=h2.lt.resolve_left o;have:=x.1;refine p.ext ⟨by rw[c];omega,λk u=>?_⟩;rw[d k (by omega) (Or.inr (by omega)),x.2 k (by omega)]
 ·have q:j=hs.length:=by simp at g1;omega
  subst q;simp only[List.getElem_concat_length,h1,c];exact ht
end
end
section
variable {C:Nat->Option aE}{h:Hf}{n:K}{Q:V->Hf->K->Prop}
def Wh(h:Hf)(lo hi:K)(w:V)(x:List (List Nd)):Prop:=∀g:Hf,(∀b:K,lo.num<=b.num->b.num<hi.num->g b=h b)->nQ g hi w x
def C8(n0:K)(h:Hf)(v:V)(l:List (List Nd))(hs:List V):Prop:=∀j (h1:j<hs.length) (h2:j<l.length),TG h n0 v.blk hs[j] l[j]
section
variable {h0 h4 h5:Hf}{n0 n4 n5:K}{v v5 w:V}{l:List (List Nd)}{hs:List V}{t:List Nd}
def C8.app(a:Bj h0 n0 h n v l hs)(b:C8 n0 h v l hs)(x:Ext h n h4 n4)(ht:TG h5 n0 n4 w t)(c:v5.blk=n4)(d:∀b:K,b.num<n4.num->(v=.ns\/b.num≠v.blk.num)->h5 b=h4 b):C8 n0 h5 v5 (l++[t]) (hs++[w]):=by
 intro j g1 f;rw[c];by_cases hj:j<hs.length
 ·have h1:=a.1;rw[List.getElem_append_left hj,List.getElem_append_left (by omega)];have g:=a.2.1.lt.resolve_left (a.2.2 j hj (by omega)).1;have:=x.1;exact(b j hj (by omega)).skip (λk _ i=>by rw[d k (by omega) (Or.inr (by omega)),x.2 k (by omega)]) (by omega)
 ·have h1:=a.1;have e:j=hs.length:=by simp at g1;omega
  subst e;simp only[List.getElem_concat_length,h1];exact ht
def C8.wh(a:Bj h0 n0 h n v l hs)(b:C8 n0 h v l hs):Wh h n0 n v l:=by intro g c;obtain⟨h1,h2,f⟩:=a;refine⟨hs,h1,h2.sl.iI (h2.at_.imp id λe=>c _ e.1 e.2) (ξ _),λj g1 d=>?_⟩;have i:=h2.lt.resolve_left (f j g1 d).1;exact((b j g1 d).skip (λk k1 k2=>c k k1 (by omega)) (fC i)).t
end
def TG.low{lo b:K}{v:V}{ts:List Nd}(a:TG h lo n v ts)(e:b.num<=lo.num):TG h b n v ts:=by obtain⟨m,h1,h2,c⟩:=a;exact⟨m,h1,h2.imp id (eF e),λp hp=>⟨(c p hp).1.imp id (eF e),(c p hp).2.imp id (eF e)⟩⟩
end
end Go.Ev.X
namespace Go.Ev.X
open Go Go.Ev
section
variable {C:Nat->Option aE}{E:Env}{h:Hf}{n:K}{q:Env->Hf->K->Prop}{l:List AO}{Δ:Nat}{k:V->Hf->K->Prop}
end
end Go.Ev.X
namespace Go.Ev.X
open Go Go.Ev
attribute [local irreducible] WC WO WD SO μ
section
variable {C:Nat->Option aE}{h:Hf}{n:K}{Q:V->Hf->K->Prop}
end
section
variable {C:Nat->Option aE}{h:Hf}{n:K}{Q:V->Hf->K->Prop}
end
end Go.Ev.X
namespace Go.Ev.X
open Go Go.Ev
def Bn(x:Nd):Prop:=x.kids.length<1000000/\x.name.length<1000000/\x.vars.length<1000/\∀v∈x.vars,v.1.length<10000000
def Bd.of{ts:List Nd}(hl:ts.length<100000)(h:∀x∈ts,Bn x):Bd ts:=
 ⟨hl,λi hi=>(h _ (bL hi)).1,λi hi=>(h _ (bL hi)).2.1,λi hi=>(h _ (bL hi)).2.2.1,λi hi=>(h _ (bL hi)).2.2.2⟩
def Bd.bn{ts:List Nd}(h:Bd ts):∀x∈ts,Bn x:=by intro x a;obtain⟨i,hi,rfl⟩:=fD a;exact⟨h.jM i hi,h.nm i hi,h.vl i hi,h.vn i hi⟩
def KR(t:List Nd):Prop:=0<t.length/\∀x∈t,∀k∈x.kids,0<=k/\k<(t.length:Int)
def alG:∀(l:List (List Nd)) (s:List Nd×List Int),(∀y∈s.1,Bn y)->(∀t∈l,∀y∈t,Bn y)->∀y∈(l.foldl gD s).1,Bn y:=by
 intro l
 induction l with
 | nil=>intro s h _;exact h
 | cons t l ih=>
  intro s h g;refine ih (gD s t) (λy a=>?_) λu b=>g u (by simp[b]);rcases eG.1 a with e | e
  ·exact h y e
  ·obtain⟨z,c,rfl⟩:=List.mem_map.1 e;have:=g t (by simp) z c;exact⟨by show(z.kids.map _).length<_;rw[ji];exact this.1,this.2⟩
def Us:∀(l:List (List Nd)) (s:List Nd×List Int),(∀y∈s.1,∀k∈y.kids,0<=k/\k<(s.1.length:Int))->(∀k∈s.2,0<=k/\k<(s.1.length:Int))->(∀t∈l,KR t)->(∀y∈(l.foldl gD s).1,∀k∈y.kids,0<=k/\k<((l.foldl gD s).1.length:Int))/\(∀k∈(l.foldl gD s).2,0<=k/\k<((l.foldl gD s).1.length:Int)):=by
 intro l
 induction l with
 | nil=>intro s h1 h2 _;exact⟨h1,h2⟩
 | cons t l ih=>
  intro s h1 h2 g;have hl:(gD s t).1.length=s.1.length+t.length:=by simp[gD]
  have gt:=g t (by simp);refine ih (gD s t) (λy b k a=>?_) (λk a=>?_) λu c=>g u (by simp[c])
  ·rw[hl];rcases eG.1 b with e | e
   ·have:=h1 y e k a;omega
   ·obtain⟨z,d,rfl⟩:=List.mem_map.1 e;obtain⟨k',f,rfl⟩:=List.mem_map.1 (show k∈z.kids.map _ from a);have:=gt.2 z d k' f;omega
  ·rw[hl];rcases eG.1 a with e | e
   ·have:=h2 k e;omega
   ·rw[gF]at e;have:=gt.1;omega
def oc(x:Nd)(l:List (List Nd)):(cM x l).length=lens l+1:=by unfold cM;simp[(qF l).1]
def alH{x:Nd}{l:List (List Nd)}(hs:lens l<99999)(hl:l.length<1000000)(b:x.name.length<1000000)(hv:x.vars.length<1000)(c:∀v∈x.vars,v.1.length<10000000)(hb:∀t∈l,Bd t):Bd (cM x l):=by
 refine Bd.of (by rw[oc];omega) λy a=>?_;rcases eG.1 a with e | e
 ·exact alG l ([],[]) (λy a=>by cases a) (λt ht=>(hb t ht).bn) y e
 ·rw[gF]at e;subst e;exact⟨by show(gK l).2.length<_;rw[(qF l).2];exact hl,b,hv,c⟩
def alI{x:Nd}{l:List (List Nd)}(h:∀t∈l,KR t):KR (cM x l):=by
 have h1:=Us l ([],[]) (λy b=>by cases b) (λk a=>by cases a) h;have c:=(qF l).1;refine⟨by rw[oc];omega,λy b k a=>?_⟩;rw[oc];have d:(l.foldl gD ([],[])).1.length=lens l:=c;rcases eG.1 b with e | e
 ·have:=h1.1 y e k a;omega
 ·rw[gF]at e;subst e;have:=h1.2 k a;omega
end Go.Ev.X
namespace Go.Ev.X
open Go Go.Ev
attribute [local irreducible] WC WO WD SO μ
section
variable {C:Nat->Option aE}{h:Hf}{n:K}{Q:V->Hf->K->Prop}
structure QB(vars:List (S×S))(l:List (List (List Nd)))(body:List Nd):Prop where
 len:l.length<=4
 each:∀x∈l,x.length<=4
 bd:∀x∈l,∀t∈x,Bd t
 body:Bd body
 vl:vars.length<1000
 vn:∀v∈vars,v.1.length<10000000
section
variable {op:Int}{vars:List (S×S)}{l:List (List (List Nd))}{body:List Nd}
end
end
section
variable {C:Nat->Option aE}{h:Hf}{n:K}{Q:V->Hf->K->Prop}
variable {op:Int}{vars:List (S×S)}{l:List (List (List Nd))}{body:List Nd}
end
section
variable {C:Nat->Option aE}{h0:Hf}{n0:K}
variable {op:Int}{vars:List (S×S)}{l:List (List (List Nd))}{body:List Nd}{vv vl t:V}
end
section
variable {C:Nat->Option aE}{h0:Hf}{n0:K}
variable {op:Int}{vars:List (S×S)}{l:List (List (List Nd))}{body:List Nd}{vv vl t:V}
end
section
variable {C:Nat->Option aE}{h:Hf}{n:K}{Q:V->Hf->K->Prop}
variable {op:Int}{vars:List (S×S)}{l:List (List (List Nd))}{body:List Nd}
end
section
section
variable {h0 h h1 h4 h5:Hf}{n0 n n1 n4 n5:K}{u v u5 v5 w:V}{l:List (List (List Nd))}{t:List (List Nd)}{hs cs:List V}
end
end
section
variable {C:Nat->Option aE}
section
variable {h0 h:Hf}{n0 n:K}{l:List (List (List Nd))}{vl x0 x1 Zh u v w:V}{us hs:List V}{i:Nat}
end
end
section
variable {C:Nat->Option aE}{h:Hf}{n:K}{Q:V->Hf->K->Prop}
variable {op:Int}{vars:List (S×S)}{l:List (List (List Nd))}{body:List Nd}
end
end Go.Ev.X
namespace Go.Ev.X
open Go Go.Ev
section
def Ut{α:Type}:∀{vs l:List α},vs.length<=l.length->over vs l=some (vs++l.drop vs.length)
 | [],l,_=>by simp[over]
 | v::vs,[],h=>by simp at h
 | v::vs,a::l,h=>by simp only[over,Ut (show vs.length<=l.length by simpa using h)];simp
def Lx{α:Type}{vs:List α}:∀{o:Nat} {l:List α},o+vs.length<=l.length->cJ vs l o=some (l.take o++vs++l.drop (o+vs.length))
 | 0,l,h=>by
  have:cJ vs l 0=over vs l:=by cases l<;>rfl
  rw[this,Ut (by omega)];simp
 | o+1,[],h=>by simp at h
 | o+1,a::l,h=>by simp only[cJ,Lx (vs:=vs) (o:=o) (l:=l) (by simp at h;omega)];simp[show o+1+vs.length=o+vs.length+1 by omega]
def Uu{α:Type}:∀{m:Nat} {l:List α},m<=l.length->takeN m l=some (l.take m)
 | 0,l,_=>by simp[takeN]
 | m+1,[],h=>by simp at h
 | m+1,a::l,h=>by simp only[takeN,Uu (show m<=l.length by simpa using h)];simp
section
variable {C:Nat->Option aE}{E:Env}{h:Hf}{n:K}{q:Env->Hf->K->Prop}{l:List AO}{Δ:Nat}{k:V->Hf->K->Prop}{i:Nat}{m:Made}{P:List PR}{B:List PB}
def alJ{z o len c p:Nat}{x:ao}{lo:Option ao}{b:K}(d:ge E x=some (.sl b o len c))(e:bd E 0 lo=some p)(h1:p<=len)(h2:p<c)(f:len<=c)(g:k (.sl b (o+p*z) (len - p) (c - p)) h n):SO C (.sli (.sl z) x lo none none) E h n k:=
 fR (λ_ _ _ _=>rfl) (λT H a r=>by
  have j:=a.bd e;have b1:Nat.ble p len=true:=gk h1;have b2:Nat.ble len c=true:=gk f;have b3:Nat.ble c c=true:=gk (ξ _);have b4:Nat.beq c p=false:=by rw[dP];simp;omega
  simp only[simple,a.ge d,lP,j,uh,b1,b2,b3,b4,iX,cond_true,cond_false,cU];rfl) g
def Uv{d x:ao}{b:K}{o L c m e:Nat}{bC cs:List V}{v:V}(t:ge E d=some (.sl b o L c))(hb:h b=some (.c bC e 0))(J:o+L<=bC.length)(u:ge E x=some v)(a:κ h n 1 v m cs)(w:aB cs=true)(h0:0<min L m)
 (y:∀h',h' b=some (.c (bC.take o++cs.take (min L m)++bC.drop (o+min L m)) e 0)->bA b h h'->k (.i .i64 (min L m:Nat)) h' n):SO C (.yI 1 d x) E h n k:=
 mz (λ_ _ _ _=>rfl) λT H r f=>by
  have s:H.get b=some (.c bC e 0):=by rw[f];exact hb
  have M:cs.length=m*1:=a.1;have z:elems H 1 (.sl b o L c)=some (L,(bC.drop o).take (L*1)):=by have:cw bC o (Nat.mul L 1)=some ((bC.drop o).take (L*1)):=ug (by show o+L*1<=_;omega);simp only[elems,rowAt,s,O.row,this]
  have A:=a.elems f;have D:(bif Nat.ble m L then m else L)=min L m:=by
   cases p:Nat.ble m L with
   | true=>have:=j4 p;show m=_;omega
   | false=>
    have:¬ m<=L:=λg=>by rw[gk g]at p;cases p
    show L=_;omega
  have F:Nat.beq (min L m) 0=false:=by rw[dP];simp;omega
  have ht:takeN (Nat.mul (min L m) 1) cs=some (cs.take (min L m)):=by rw[show Nat.mul (min L m) 1=min L m from kp _];exact Uu (by omega)
  have G:aB (cs.take (min L m))=true:=by
   have key:∀(l:List V) (j:Nat),aB l=true->aB (l.take j)=true:=by
    intro l
    induction l with
    | nil=>intro j _;simp[aB]
    | cons a l ih=>
     intro j hl;simp only[aB,aD]at hl;cases j with
     | zero=>rfl
     | succ j=>simp only[j7,aB,hl.1,ih j hl.2,iX]
   exact key _ _ w
  have pU:(cs.take (min L m)).length=min L m:=by simp;omega
  have hp:=Lx (vs:=cs.take (min L m)) (o:=o) (l:=bC) (by rw[pU];omega);rw[pU]at hp;refine⟨.i .i64 (min L m:Nat),H.put (some (.c (bC.take o++cs.take (min L m)++bC.drop (o+min L m)) e 0)) b,n,?_,by rw[fE,f];exact y _ (eJ _ _ _) (jr _ _ _)⟩;have I:gq H b o (cs.take (min L m))=some (H.put (some (.c (bC.take o++cs.take (min L m)++bC.drop (o+min L m)) e 0)) b):=by simp only[gq,s,Nat.ble,G,iX,cond_true,hp]
  simp only[simple,r.ge t,r.ge u,z,A,D,F,cond_false,ht,I];rfl
def alL{d:K}{f x:ao}{b:K}{o L c m e:Nat}{bC cs:List V}{v:V}(g:ge E f=some (.sl b o L c))(hb:h b=some (.c bC e 0))(j:o+L<=bC.length)(p:ge E x=some v)(a:κ h n 1 v m cs)(r:aB cs=true)(h0:0<min L m)
 (s:∀h',h' b=some (.c (bC.take o++cs.take (min L m)++bC.drop (o+min L m)) e 0)->bA b h h'->WO C l ((d,.i .i64 (min L m:Nat))::E) h' n q):WO C (⟨some d,.yI 1 f x,none,Δ⟩::l) E h n q:=bW (Uv g hb j p a r h0 s)
def alM{d:K}{f x:ao}{b:K}{o L c j e:Nat}{bC cs:List V}{v:V}(g:ge E f=some (.sl b o L c))(hb:(gv h Δ m) b=some (.c bC e 0))(p:o+L<=bC.length)(r:ge E x=some v)(a:κ (gv h Δ m) n 1 v j cs)(s:aB cs=true)(h0:0<min L j)
 (t:∀h',h' b=some (.c (bC.take o++cs.take (min L j)++bC.drop (o+min L j)) e 0)->bA b (gv h Δ m) h'->WD C l (i+1) ((d,.i .i64 (min L j:Nat))::E) (ke h h' Δ m) n m P (⟨i,Δ,h,ke h h' Δ m⟩::B) q):WD C (⟨some d,.yI 1 f x,none,Δ⟩::l) i E h n m P B q:=Ce U (Uv g hb p r a s h0 t)
def alN{d:K}{z o len c p:Nat}{x:ao}{lo:Option ao}{b:K}(a:ge E x=some (.sl b o len c))(e:bd E 0 lo=some p)(h1:p<=len)(h2:p<c)(f:len<=c)(g:WD C l (i+1) ((d,.sl b (o+p*z) (len - p) (c - p))::E) h n m P B q):WD C (⟨some d,.sli (.sl z) x lo none none,none,Δ⟩::l) i E h n m P B q:=gX U (alJ a e h1 h2 f g)
end
end
end Go.Ev.X
namespace Go.Ev.X
open Go Go.Ev
attribute [local irreducible] WC WO WD SO μ
section
variable {C:Nat->Option aE}{h:Hf}{n:K}{Q:V->Hf->K->Prop}
def C9{m:Nat}(hm:m<4294967296){a:dR}:mq .shr a (.i .u64 (m:Nat)) (.i .u64 32)=some (.i .u64 ((0:Nat):Int)):=by
 show some (V.i .u64 (Int.fdiv (m:Int) (Int.ofNat (Nat.pow 2 32))))=_;have:Int.fdiv (m:Int) (Int.ofNat (Nat.pow 2 32))=((0:Nat):Int):=by rw[Int.fdiv_eq_ediv_of_nonneg _ (by decide)];exact Int.ediv_eq_zero_of_lt (by omega) (by show(m:Int)<4294967296;omega)
 rw[this]
def Ly{m:Nat}(hm:m<4294967296){a:dR}:mq .and a (.i .u64 (m:Nat)) (.i .u64 4294967295)=some (.i .u64 (m:Nat)):=by
 have e:(BitVec.ofInt 64 (m:Int) &&& BitVec.ofInt 64 4294967295).toNat=m:=by
  rw[BitVec.toNat_and,BitVec.toNat_ofInt,BitVec.toNat_ofInt];have h1:((m:Int) % ((2 ^ 64:Nat):Int)).toNat=m:=by rw[Int.emod_eq_of_lt (by omega) (by show(m:Int)<18446744073709551616;omega)];simp
  have h2:((4294967295:Int) % ((2 ^ 64:Nat):Int)).toNat=2 ^ 32 - 1:=by decide
  rw[h1,h2,Nat.and_two_pow_sub_one_eq_mod];exact zm hm
 show some (V.i .u64 (wr .u64 (Int.ofNat (BitVec.ofInt 64 (m:Int) &&& BitVec.ofInt 64 4294967295).toNat)))=_;rw[e,show Int.ofNat m=((m:Nat):Int) from rfl,zJ (show mJ .u64 ((m:Nat):Int) from⟨by omega,by omega⟩)]
def alO(a:Cd C){m:Nat}(hm:m<4294967296)(b:Q (.u [.i .u64 ((0:Nat):Int),.i .u64 (m:Nat)]) h n):μ C (.f 299 [] []) [.i .u64 ((1:Nat):Int),.i .u64 (m:Nat)] h n Q:=by refine μ.go a.f299 U ?_;refine ε<|γ U<|γ U<|δ ?_;refine ε<|γ U<|lE U U (Ly (m:=1) (by decide))<|γ U<|δ ?_;refine ε<|γ U<|lE U U (C9 (m:=1) (by decide))<|γ U<|δ ?_;refine ε<|γ U<|lE U U (Ly hm)<|γ U<|δ ?_;refine ε<|γ U<|lE U U (C9 hm)<|γ U<|δ ?_;refine ε<|γ U<|γ U<|xZ U U (show((1:Nat):Int)*((m:Nat):Int)=((m:Nat):Int) by omega) ⟨by omega,by omega⟩<|γ U<|δ ?_;refine ε<|γ U<|γ U<|xZ U U (show((0:Nat):Int)*((m:Nat):Int)=((0:Nat):Int) by omega) ⟨by omega,by omega⟩<|γ U<|lE U U (C9 hm)<|nH U U (show((0:Nat):Int)+((0:Nat):Int)=((0:Nat):Int) by omega) ⟨by omega,by omega⟩<|γ U<|δ ?_;refine ε<|γ U<|lE U U (Ly (m:=0) (by decide))<|γ U<|δ ?_;refine ε<|γ U<|lE U U (C9 (m:=0) (by decide))<|γ U<|δ ?_;refine ε<|γ U<|γ U<|γ U<|xZ U U (show((1:Nat):Int)*((0:Nat):Int)=((0:Nat):Int) by omega) ⟨by omega,by omega⟩<|nH U U (show((0:Nat):Int)+((0:Nat):Int)=((0:Nat):Int) by omega) ⟨by omega,by omega⟩<|γ U<|δ ?_;refine ε<|γ U<|γ U<|xZ U U (show((0:Nat):Int)*((0:Nat):Int)=((0:Nat):Int) by omega) ⟨by omega,by omega⟩<|γ U<|nH U U (show((0:Nat):Int)+((0:Nat):Int)=((0:Nat):Int) by omega) ⟨by omega,by omega⟩<|γ U<|lE U U (C9 (m:=0) (by decide))<|nH U U (show((0:Nat):Int)+((0:Nat):Int)=((0:Nat):Int) by omega) ⟨by omega,by omega⟩<|γ U<|δ ?_;refine ε<|γ U<|γ U<|xZ U U (show((1:Nat):Int)*((m:Nat):Int)=((m:Nat):Int) by omega) ⟨by omega,by omega⟩<|γ U<|δ (aj ⟨_,rfl,b⟩)
def alP(a:Cd C){m:Nat}(hm:m<4294967296)(b:Q (.u [.i .u64 ((0:Nat):Int),.i .u64 (m:Nat)]) h n):μ C (.f 256 [] []) [.i .u64 ((1:Nat):Int),.i .u64 (m:Nat)] h n Q:=by refine μ.go a.f256 U ?_;refine ε<|γ U<|γ U<|δ ?_;refine φ<|az U U<|ay ?_;refine ε<|γ U<|γ U<|ah U U<|alO a hm<|γ U<|bU U U<|bU U U<|γ U<|γ U<|δ ?_;refine ε<|γ U<|γ U<|γ U<|γ U<|δ (aj ⟨_,rfl,b⟩)
def kT(m q:Nat):List V:=List.replicate q (.i .i64 (-1))++List.replicate (m - q) (.i .i64 0)
def Gb{m q:Nat}(h:q<=m):(kT m q).length=m:=by simp[kT];omega
def alQ(m q:Nat):aB (kT m q)=true:=by
 have key:∀(l:List V),(∀v∈l,v.one=true)->aB l=true:=by
  intro l
  induction l with
  | nil=>intro _;rfl
  | cons a l ih=>intro h;simp only[aB,h a (by simp),ih λv hv=>h v (by simp[hv]),iX]
 refine key _ λv hv=>?_;simp only[kT,eG,List.mem_replicate]at hv;rcases hv with ⟨_,rfl⟩ | ⟨_,rfl⟩<;>rfl
def take_one:∀{l:List V} {j:Nat},aB l=true->aB (l.take j)=true
 | [],j,_=>by simp[aB]
 | a::l,0,_=>rfl
 | a::l,j+1,h=>by simp only[aB,aD]at h;simp only[j7,aB,h.1,take_one h.2,iX]
def alR{m q d:Nat}(h:q<=m)(h1:d<=q)(h2:d<=m - q):(kT m q).take q++((kT m q).take q).take d++(kT m q).drop (q+d)=kT m (q+d):=by
 have a:(kT m q).take q=List.replicate q (.i .i64 (-1)):=by unfold kT;rw[List.take_left' (by simp)]
 have b:(kT m q).drop (q+d)=List.replicate (m - q - d) (.i .i64 0):=by unfold kT;rw[List.drop_append,List.drop_of_length_le (by simp)];simp
 rw[a,b,List.take_replicate,qf h1,List.replicate_append_replicate];unfold kT;rw[show m - (q+d)=m - q - d by omega]
def Lz(k:IntKind)(x:Int):∀m:Nat,dX k (List.replicate m x)=List.replicate m (.i k x)
 | 0=>rfl
 | m+1=>by simp only[xo,dX,Lz k x m]
def Uw(v:V):∀m:Nat,dS [v] m=List.replicate m v
 | 0=>rfl
 | m+1=>by simp only[dS,Uw v m,xo];rfl
def alS(l:Cd C){x:V}{m:Nat}(hm:m<1000000)(h0:0<m)(g:fh h n .i64 x [-1])(o:∀b h' n',Ext h n h' n'->n.num<=b.num->Cl h' n' b (dX .i64 (List.replicate m (-1))) 3->Q (.sl b 0 m m) h' n'):μ C (.f 191 [] []) [x,iN m] h n Q:=by
 have g:κ h n 1 x 1 (dX .i64 [-1]):=g;refine μ.go l.f191 U ?_;refine ε<|γ U<|δ ?_;refine φ<|ε<|γ U<|aH U U<|δ ?_;refine az U (by simp)<|ay ?_;refine ε<|γ U<|aJ U g<|nF U ⟨by omega,by omega⟩<|γ U<|nF U ⟨by omega,by omega⟩<|ah U U<|alP l (m:=m) (by omega)<|γ U<|bU U U<|bU U U<|γ U<|γ U<|δ ?_;refine φ<|ε<|γ U<|dH U U<|γ U<|ζ U (by simp)<|γ U<|ζ U (by simp)<|dH U U<|aW U (by simp) U<|δ ?_;refine az U (by simp;omega)<|ay ?_;refine ε<|γ U<|nF U ⟨by omega,by omega⟩<|xY U U (by omega) (by omega) <| λh1 n1 B u p=>γ U<|δ ?_;have v:h1 n=some (.c (kT m 0) 3 0):=by rw[u,Uw];simp[kT]
 refine ε<|γ U<|γ U<|alL U v (by rw[Gb (by omega)];omega) U (g.ext p) U (by omega) <| λh2 j b2=>γ U<|δ ?_;have s:min m 1=1:=by omega
 have w:h2 n=some (.c (kT m 1) 3 0):=by have j:h2 n=some (.c ((kT m 0).take 0++(dX .i64 [-1]).take (min m 1)++(kT m 0).drop (0+min m 1)) 3 0):=j;rw[j,s];simp[kT,dX]
 rw[s];have loop:∀(r q:Nat) (h':Hf),m - q<=r->1<=q->q<=m->h' n=some (.c (kT m q) 3 0)->Ext h n h' n1->WC C aeK [(k7,.sl n 0 m m),(k8,iN q)] h' n1 (blk 0 (sq C aeL (fq [.t k4] Q))):=by
  intro r
  induction r with
  | zero=>
   intro q h' y h1 h2 a e;have:q=m:=by omega
   subst this;have d:κ h' n1 1 (.sl n 0 q q) q (kT q q):=κ.whole (by omega) a (by rw[Gb h2];omega);refine aF ?_;refine φ<|ε<|γ U<|γ U<|aJ U d<|aH U U<|δ ?_;refine az U (by simp)<|bG ?_;refine ε<|γ U<|γ U<|δ (aj ⟨_,rfl,o n h' n1 e (ξ _) ⟨by omega,?_⟩⟩);rw[a,Lz];simp[kT]
  | succ r ih=>
   intro q h' y h1 h2 a e;have d:κ h' n1 1 (.sl n 0 m m) m (kT m q):=κ.whole (by omega) a (by rw[Gb h2];omega);by_cases z:q=m
   ·subst z;refine aF ?_;refine φ<|ε<|γ U<|γ U<|aJ U d<|aH U U<|δ ?_;refine az U (by simp)<|bG ?_;refine ε<|γ U<|γ U<|δ (aj ⟨_,rfl,o n h' n1 e (ξ _) ⟨by omega,?_⟩⟩);rw[a,Lz];simp[kT]
   refine aF ?_;refine φ<|ε<|γ U<|γ U<|aJ U d<|aH U U<|δ ?_;refine ax U (by simp;omega)<|ay ?_;refine aA<|rB<|aI U<|aI U<|aI U<|alN U U h2 (by omega) (by omega)<|aI U<|aI U<|Jb U d U U (by omega) (by omega) <| λD A E=>alM U a (by rw[Gb h2];omega) U A (by simp only[Nat.zero_mul,ig];exact take_one (alQ _ _)) (by omega) <| λk i b3=>zS U U ⟨by omega,by omega⟩<|aI U<|df (by simp[AG,nE,pS,Nat.testBit]) ?_;have b3:bA n h' k:=b3;have i:k n=some (.c ((kT m q).take (0+q*1)++(((kT m q).drop (0*1)).take ((q - 0)*1)).take (min (m - q) (q - 0))++(kT m q).drop (0+q*1+min (m - q) (q - 0))) 3 0):=i;rw[Nat.zero_mul,mY,kp,eV,ig,alR h2 (by omega) (by omega)]at i;exact au (ih (q+min (m - q) q) k (by omega) (by omega) (by omega) i (e.Ξ b3 (ξ _))) (Θ.rf U)
 refine φ<|aA<|au (loop m 1 h2 (by omega) (ξ _) (by omega) w (p.Ξ b2 (ξ _))) (Θ.rf U)
end
section
variable {C:Nat->Option aE}{h:Hf}{n:K}{Q:V->Hf->K->Prop}
def qG(l:List Int)(ks:List Int)(v:Int):List Int:=ks.foldl (λl k=>l.set k.toNat v) l
def oe(ts:List Nd):Nat->List Int
 | 0=>List.replicate ts.length (-1)
 | i+1=>qG (oe ts i) (bO ts i) i
def p0(ts:List Nd):List Int:=oe ts ts.length
def Ux(v:Int):∀(ks l:List Int),(qG l ks v).length=l.length
 | [],l=>rfl
 | k::ks,l=>by show(qG (l.set k.toNat v) ks v).length=_;rw[Ux v ks];simp
def Da(ts:List Nd):∀i,(oe ts i).length=ts.length
 | 0=>by simp[oe]
 | i+1=>by rw[oe,Ux,Da ts i]
section
variable {ts:List Nd}{i:Nat}{vv kv:V}{bl c3 c4:K}{Q1:Ex->Env->Hf->K->Prop}
def alT(hlen:ts.length<1000000)(hi:i<ts.length)(x:ts[i].kids.length<1000000)(q:∀k∈ts[i].kids,k<i/\0<=k)(y:bl.num≠c3.num)(z:bl.num≠c4.num):
 ∀(r j:Nat) (L:List Int) (h:Hf),ts[i].kids.length - j=r->j<=ts[i].kids.length->L.length=ts.length->Cl h n c3 [.sl bl 0 ts.length ts.length] 33->Cl h n c4 (kQ ts[i] vv kv i) 95->Cl h n bl (dX .i64 L) 3->fh h n .i64 kv ts[i].kids->(kv=.ns\/kv.blk.num≠bl.num)->(∀E' h',bA bl h h'->Cl h' n bl (dX .i64 (qG L (ts[i].kids.drop j) i)) 3->Q1 .normal E' h' n)->WC C aev [(k3,.p c3 0),(k4,.p c4 0),(Nm,kv),(yS,.i .i64 (ts[i].kids.length:Nat)),(vD,iN j)] h n (blk 2 Q1):=by
 intro r
 induction r with
 | zero=>
  intro j L h hj s d e f b a g c;have:j=ts[i].kids.length:=by omega
  subst this;refine aF ?_;refine ε<|aH U U<|δ ?_;refine φ<|az U (by simp)<|bG ?_;exact c _ _ (λ_ _=>rfl) (by rw[oS];exact b)
 | succ r ih=>
  intro j L h hj s d e f b a g c;have l:j<ts[i].kids.length:=by omega
  have t:=q ts[i].kids[j] (bL _);have o:=a.get l 1;rw[gL l]at c;obtain⟨k',u⟩:∃k':Nat,ts[i].kids[j]=(k':Int):=⟨ts[i].kids[j].toNat,by omega⟩;rw[u]at t o c;have hI:=b.Kt d;refine aF ?_;refine ε<|aH U U<|δ ?_;refine φ<|ax U (by simp;omega)<|ay ?_;refine φ<|aA<|ε<|aV U U a l<|ν U o<|γ U<|δ ?_;refine aP<|ν U (e.ld U _)<|γ U<|χ U<|ν U (f.ld U _)<|aV U U hI (by omega)<|aR U U b.2 (CB (i:=k') (by omega) _ (by simp[V.off])) <| λh1 m b1=>δ ?_;have b1:bA bl h h1:=b1;replace m:h1 bl=_:=m;refine aP<|cj U U ⟨by omega,by omega⟩<|γ U<|δ ?_;refine au (ih (j+1) (L.set k' i) h1 (by omega) (by omega) (by simpa using d) (e.Ξ b1 (by omega)) (f.Ξ b1 (by omega)) ⟨b.1,m⟩ (κ.Ξ a b1 g) g ?_) (Θ.rf U);intro E' h' v w;exact c E' h' (λk a=>by rw[v k a,b1 k a]) (by simpa[qG]using w)
end
def Uy(u:Cd C){t:V}{ts:List Nd}(ht:bK h n t ts)(hlen:ts.length<1000000)(h0:0<ts.length)(M:∀i (hi:i<ts.length),ts[i].kids.length<1000000)(N:∀j,j<ts.length->ord ts j=true)
 (O:∀v' h' n',Ext h n h' n'->fh h' n' .i64 v' (p0 ts)->Q v' h' n'):μ C (.f 109 [] []) [t] h n Q:=by
 obtain⟨m,tm⟩:=ht.get;refine μ.go u.f109 U ?_;obtain⟨cs,hs⟩:=ht.sl;refine ε<|γ U<|δ ?_;refine ε<|jJ U <| λh1 n1 dd P v=>γ U<|aJ U (hs.ext v)<|ah U U<|alS u hlen h0 (κ.whole (len:=1) (by omega) P rfl) <| λbl h2 w D gg c2=>bN <| λh3 x kh R E=>aR U U R U <| λy S b4=>δ ?_;have y1:=v.1;have y2:=D.1;have auL:=c2.1;have x4:Ext h n y x:=((v.trans D).trans E).Ξ b4 (by omega);have T:Cl y x bl (dX .i64 (oe ts 0)) 3:=(Cl.ext c2 E).Ξ b4 (by omega);have W:Cl y x w [.sl bl 0 ts.length ts.length] 33:=⟨by omega,S⟩;refine φ<|ε<|γ U<|ah U U<|Ko u (tm.ext x4) hlen ?_;intro b e h5 q r X NW auM it;refine δ<|aA ?_;let I:Nat->Hf->K->Prop:=λi h' n'=>Ext h n h' n'/\(b.num<n'.num/\h' b=some (.c [t] e 0))/\Cl h' n' bl (dX .i64 (oe ts i)) 3/\Cl h' n' w [.sl bl 0 ts.length ts.length] 33;have z5:=r.1;refine tj U it I (λ_ _ _=>False) ?_ ?_ ?_ ?_ ?_ ?_ ?_ ?_
 ·rintro j h1 n1 h' n' ⟨g1,⟨a,l⟩,g,k⟩ ex;exact⟨g1.trans ex,⟨eE a ex.1,by rw[ex.2 _ a];exact l⟩,g.ext ex,k.ext ex⟩
 ·rintro j h1 n1 h' ⟨g1,⟨a,l⟩,g,k⟩ d;have Y:=g1.Ξ d (by omega);exact⟨Y,⟨a,by rw[d _ (by omega)];exact l⟩,g.Ξ d (by omega),k.Ξ d (by omega)⟩
 ·rintro j h1 n1 ⟨g1,a,_⟩;exact⟨a.1,a.2,tm.ext g1⟩
 ·intro j hj;rw[rL];rfl
 ·intro h' d;have hs:q.succ.num=q.num+1:=K.eI q;have g1:Ext h n h' q.succ:=((x4.trans r).Ξ d (by omega)).succ;exact⟨g1,⟨by omega,by rw[d _ (by omega)];exact X⟩,((T.ext r).Ξ d (by omega)).up (by omega),((W.ext r).Ξ d (by omega)).up (by omega)⟩
 ·rintro j hj h1 m1 E1 F ⟨g1,⟨a,l⟩,g,k⟩ z;have o:j<ts.length:=by rw[qC]at hj;exact hj
  rw[rL]at z;simp only[jF,kV]at z;subst z;obtain⟨vv,kv,Z,yd,A⟩:=tm.row o;rw[Z,Cz];have aZ:=uG ts[j] (κ.one yd) (κ.one A) (i:=j);refine aP<|bN <| λh6 G F2 a6 p=>aR U U a6 (bS rfl rfl aZ) <| λh7 a7 b7=>δ ⟨rfl,by rw[b7 _ (by omega),p.2 _ F],λB b8=>?_⟩;have c4:Cl B G m1 (kQ ts[j] vv kv j) 95:=(Cl.Ξ ⟨by omega,a7⟩ b8 (by omega));have H:Ext h n B G:=((g1.trans p).Ξ b7 (by omega)).Ξ b8 (by omega);have J:=A.ext H;have alV:=M j o;refine aA ?_;refine ε<|χ U<|χ U<|ν U (c4.ld U _)<|aJ U J<|γ U<|δ ?_;refine aA ?_;refine au (alT (i:=j) (vv:=vv) (c3:=w) (c4:=m1) (bl:=bl) hlen o alV (by have:=jL (N j o);rw[jW o]at this;exact this) (by omega) (by omega) _ 0 (oe ts j) B rfl (by omega) (Da ts j) (((k.ext p).Ξ b7 (by omega)).Ξ b8 (by omega)) c4 (((g.ext p).Ξ b7 (by omega)).Ξ b8 (by omega)) J ?_ ?_) (Θ.rf U)
  ·cases κ.dT A with
   | inl h=>exact Or.inl h
   | inr h=>exact Or.inr (by omega)
  ·intro E' h9 s L;refine⟨by omega,s _ (by omega),H.Ξ s (by omega),⟨by omega,by rw[s _ (by omega),b8 _ (by omega),b7 _ (by omega),p.2 _ a];exact l⟩,?_,(((k.ext p).Ξ b7 (by omega)).Ξ b8 (by omega)).Ξ s (by omega)⟩;rw[ig,←jW o]at L;exact L
 ·rintro h' n' mQ ⟨g1,⟨a,l⟩,g,k⟩;rw[qC]at g;refine ε<|ν U (k.ld U _)<|γ U<|δ (aj ⟨_,rfl,O _ _ _ g1 (g.Kt (Da ts _))⟩)
 ·rintro ex h' n' h2 F hf;exact hf.elim
end
section
variable {C:Nat->Option aE}{h:Hf}{n:K}{Q:V->Hf->K->Prop}
def Uz(v:Int):∀(ks l:List Int) (j:Nat),(qG l ks v)[j]?=l[j]?\/((qG l ks v)[j]?=some v/\∃k∈ks,k.toNat=j)
 | [],l,j=>Or.inl U
 | k::ks,l,j=>by
  show(qG (l.set k.toNat v) ks v)[j]?=_\/(qG (l.set k.toNat v) ks v)[j]?=_/\_;rcases Uz v ks (l.set k.toNat v) j with e | ⟨e,x,b,g⟩
  ·rw[e,List.getElem?_set];by_cases a:k.toNat=j
   ·by_cases hl:k.toNat<l.length
    ·rw[ab a,ab (by omega)];exact Or.inr ⟨rfl,k,by simp,a⟩
    ·rw[ab a,Γ (by omega)];exact Or.inl (ml (by omega)).symm
   ·rw[Γ a];exact Or.inl U
  ·exact Or.inr ⟨e,x,by simp[b],g⟩
section
variable {ts:List Nd}
def UA(a:∀j,j<ts.length->ord ts j=true):∀(i j:Nat) (u:Int),i<=ts.length->(oe ts i)[j]?=some u->u = -1\/(j:Int)<u/\u<i
 | 0,j,u,_,h=>by
  simp only[oe,List.getElem?_replicate]at h;split at h
  ·injection h with h;exact Or.inl h.symm
  ·cases h
 | i+1,j,u,hi,h=>by
  rw[oe]at h;rcases Uz i (bO ts i) (oe ts i) j with e | ⟨e,k,b,g⟩
  ·rw[e]at h;have:=UA a i j u (by omega) h;omega
  ·rw[e]at h;injection h with h;have:=jL (a i (by omega)) k b;right;omega
end
section
variable {h0:Hf}{n0:K}{ts:List Nd}{i:Nat}{t:V}{bl:K}{Q1:Ex->Env->Hf->K->Prop}
end
end
section
variable {C:Nat->Option aE}{h:Hf}{n:K}{Q:V->Hf->K->Prop}
def jX(ts:List Nd)(i:Nat):List S:=match ts[i]? with | some x=>x.vars.map Prod.fst | none=>[]
def LA{ts:List Nd}{i:Nat}(hi:i<ts.length):jX ts i=ts[i].vars.map Prod.fst:=by simp[jX,hi]
def sI(ts:List Nd)(name:S):Nat->Int->Int
 | 0,a=>a
 | f+1,a=>if a<0 then a else if name∈jX ts a.toNat then a else sI ts name f ((p0 ts).getD a.toNat (-1))
def binds(ts:List Nd)(i:Nat)(name:S):Int:=sI ts name ts.length ((p0 ts).getD i (-1))
section
variable {ts:List Nd}(ho:∀j,j<ts.length->ord ts j=true)
include ho
def Gc{i:Nat}(hi:i<ts.length):∃hl:i<(p0 ts).length,(p0 ts)[i]'hl=(p0 ts).getD i (-1)/\((p0 ts).getD i (-1) = -1\/(i:Int)<(p0 ts).getD i (-1)/\(p0 ts).getD i (-1)<ts.length):=by
 have hl:(p0 ts).length=ts.length:=Da ts _;refine⟨by omega,?_,?_⟩
 ·rw[dY,aX (by omega)];rfl
 ·refine UA ho ts.length i _ (ξ _) ?_;rw[dY];show(p0 ts)[i]?=_;rw[aX (by omega)];rfl
end
def Db(l:Cd C){t up:V}{ts:List Nd}{i:Nat}{name:S}(ht:bK h n t ts)(hb:Bd ts)(k:fh h n .i64 up (p0 ts))(ho:∀j,j<ts.length->ord ts j=true)(hi:i<ts.length)
 (b:∀h' n',Ext h n h' n'->Q (.i .i64 (binds ts i name)) h' n'):μ C (.f 110 [] []) [t,up,iN i,st name] h n Q:=by
 have hlen:=hb.len;refine μ.go l.f110 U ?_;obtain⟨hl,u,w⟩:=Gc ho hi;have m:=k.get hl 1;rw[u]at m;have loop:∀(f:Nat) (a:Int) (h1:Hf) (n1:K),(a = -1\/0<=a/\a<(ts.length:Int)/\(ts.length:Int)<=a+f)->Ext h n h1 n1->(∀h' n',Ext h n h' n'->Q (.i .i64 (sI ts name f a)) h' n')->WC C aew [(k0,t),(k1,up),(k2,.i .i64 a),(k3,st name)] h1 n1 (blk 0 (sq C aex (fq [.t k8] Q))):=by
  intro f
  induction f with
  | zero=>
   intro a h1 n1 d e b;have:a = -1:=by omega
   subst this;refine aF ?_;refine φ<|ε<|γ U<|iC U U<|γ U<|θ U (by simp)<|θ U (by simp)<|θ U (by simp)<|θ U (by simp)<|θ U (by simp)<|θ U (by simp)<|θ U (by simp)<|θ U (by simp)<|aW U (by simp) U<|δ ?_;refine az U U<|bG ?_;refine ε<|γ U<|γ U<|δ (aj ⟨_,rfl,b h1 n1 e⟩)
  | succ f ih=>
   intro a h1 n1 d e b;rcases d with d | ⟨x,y,z⟩
   ·subst d;refine aF ?_;refine φ<|ε<|γ U<|iC U U<|γ U<|θ U (by simp)<|θ U (by simp)<|θ U (by simp)<|θ U (by simp)<|θ U (by simp)<|θ U (by simp)<|θ U (by simp)<|θ U (by simp)<|aW U (by simp) U<|δ ?_;refine az U U<|bG ?_;refine ε<|γ U<|γ U<|δ (aj ⟨_,rfl,b h1 n1 e⟩)
   ·obtain⟨a',rfl⟩:∃a':Nat,a=(a':Int):=⟨a.toNat,by omega⟩;have c:a'<ts.length:=by omega
    obtain⟨cs,sl⟩:=(ht.ext e).sl;obtain⟨vv,kv,o⟩:=(ht.ext e).node c;have A:=hb.vl a' c;obtain⟨p,v,B⟩:=Gc ho c;have q:=k.ext e;unfold sI at b;rw[Γ (by omega),Int.toNat_natCast,LA c]at b;refine aF ?_;refine φ<|ε<|γ U<|iC U U<|γ U<|ζ U (by simp)<|γ U<|ζ U (by simp)<|γ U<|ζ U (by simp)<|aV U U sl c<|ζ U (by simp)<|χ U<|ζ U (by simp)<|ν U (o.vs _)<|ζ U (by simp)<|γ U<|ζ U (by simp)<|ah U U<|uI l o.vars (by omega) <| λh2 r g=>ζ U (by simp)<|cz U<|bh U (by simp) U<|δ ?_;by_cases hm:name∈ts[a'].vars.map Prod.fst
    ·rw[ab hm]at b;refine az U (by simp only[hm,decide_true];rfl)<|bG ?_;refine ε<|γ U<|γ U<|δ (aj ⟨_,rfl,b h2 r (e.trans g)⟩)
    ·rw[Γ hm]at b;have s:=(q.ext g).get p 1;rw[v]at s;refine ax U (by simp only[hm,decide_false];rfl)<|ay ?_;refine aA<|aP<|γ U<|γ U<|aV U U (q.ext g) p<|ν U s<|γ U<|δ ?_;exact au (ih _ h2 r (by omega) (e.trans g) b) (Θ.rf U)
 refine ε<|γ U<|δ ?_;refine φ<|ε<|γ U<|γ U<|aV U U k hl<|ν U m<|γ U<|δ ?_;refine aA<|au (loop ts.length _ h n (by omega) (Ext.refl _ _) b) (Θ.rf U)
end
section
variable {C:Nat->Option aE}{h:Hf}{n:K}{Q:V->Hf->K->Prop}
def mS(ts:List Nd):Nat->List (S×S)
 | 0=>[]
 | i+1=>match ts[i]? with
  | some x=>if x.op=3/\binds ts i x.name<0/\x.name ∉ (mS ts i).map Prod.fst then mS ts i++[(x.name,x.sort)] else mS ts i
  | none=>mS ts i
def LB(ts:List Nd):List (S×S):=mS ts ts.length
def Dc{ts:List Nd}{i:Nat}(hi:i<ts.length):mS ts (i+1)=if ts[i].op=3/\binds ts i ts[i].name<0/\ts[i].name ∉ (mS ts i).map Prod.fst then mS ts i++[(ts[i].name,ts[i].sort)] else mS ts i:=by simp only[mS,aX hi]
def LC(ts:List Nd):∀i,(mS ts i).length<=i
 | 0=>ξ _
 | i+1=>by
  have:=LC ts i;unfold mS;split
  ·split
   ·simp;omega
   ·omega
  ·omega
def UB:∀(l:List (S×S)) (p:S×S),fU (l++[p])=fU l++[st p.1,st p.2]
 | [],p=>rfl
 | a::l,p=>by simp only[j8,fU,UB l p]
def Zi(s:Cd C){t:V}{ts:List Nd}(ht:bK h n t ts)(hb:Bd ts)(h0:0<ts.length)(P:∀j,j<ts.length->ord ts j=true)
 (hQ:∀v' h' n',Ext h n h' n'->dV h' n' v' (LB ts)->(v'=.ns\/n.num<=v'.blk.num)->Q v' h' n'):μ C (.f 98 [] []) [t] h n Q:=by
 have hlen:=hb.len;obtain⟨m,tm⟩:=ht.get;refine μ.go s.f98 U ?_;refine ε<|eL U ht.cells (by simp only[aB,ht.one];rfl) <| λh1 n1 dd a1 G=>γ U<|δ ?_;have ct1:Cl h1 n1 n [t] 23:=⟨by omega,a1⟩;refine ε<|ν U (ct1.ld U _)<|ah U U<|Uy s (ht.ext G) (by omega) h0 hb.jM P <| λvu h2 n2 e2 R=>bN <| λa r kh a3 e3=>aR U U a3 (mB R.cells R.one U) <| λH a4 b4=>δ ?_;have y2:=e2.1;have x4:Ext h1 n1 H r:=(e2.trans e3).Ξ b4 (by omega);have Z:Cl H r n2 [vu] 33:=⟨by omega,a4⟩;have Zk:fh H r .i64 vu (p0 ts):=κ.Ξ (R.ext e3) b4 (R.dT.imp id λg=>by omega);have S:=ct1.ext x4;refine ε<|bN <| λh5 n5 pC a5 e5=>δ ?_;have x5:=x4.trans e5;refine φ<|ε<|ν U ((S.ext e5).ld U _)<|ah U U<|Ko s (tm.ext (G.trans x5)) (by omega) ?_;intro b e h6 u x6 a6 hb6 auN it;refine δ<|aA ?_;have z6:=x6.1;have z4:=x4.1;let I:Nat->Hf->K->Prop:=λi h' n'=>Ext H r h' n'/\(b.num<n'.num/\h' b=some (.c [t] e 0))/\u.num<n'.num/\∃vo,Cl h' n' r [vo] 32/\dB h' 37 2 vo (mS ts i).length (fU (mS ts i))/\(vo=.ns\/u.num<vo.blk.num/\vo.blk.num<n'.num);refine tj U it I (λ_ _ _=>False) ?_ ?_ ?_ ?_ ?_ ?_ ?_ ?_
 ·rintro j h1 n1 h' n' ⟨g1,⟨v,J⟩,T,vo,B,w,l⟩ ex;have:=ex.1;exact⟨g1.trans ex,⟨by omega,by rw[ex.2 _ v];exact J⟩,by omega,vo,B.ext ex,w.ext (l.imp id λg=>ex.2 _ g.2),l.imp id λg=>⟨g.1,by omega⟩⟩
 ·rintro j h1 n1 h' ⟨g1,⟨v,J⟩,T,vo,B,w,l⟩ x;exact⟨g1.Ξ x (by omega),⟨v,by rw[x _ (by omega)];exact J⟩,T,vo,B.Ξ x (by omega),w.ext (l.imp id λg=>x _ (by omega)),l⟩
 ·rintro j h1 n1 ⟨g1,v,_⟩;exact⟨v.1,v.2,tm.ext ((G.trans x4).trans g1)⟩
 ·intro j hj;rw[rL];rfl
 ·intro h' x;have hs:u.succ.num=u.num+1:=K.eI u;have g1:Ext H r h' u.succ:=((e5.trans x6).Ξ x (by omega)).succ;refine⟨g1,⟨by omega,by rw[x _ (by omega)];exact a6⟩,by omega,.ns,⟨by omega,?_⟩,dB.ns _ _ _,Or.inl U⟩;rw[x _ (by omega),x6.2 _ (by omega)];exact a5
 ·rintro j hj h1 m1 E1 sG ⟨g1,⟨v,J⟩,T,vo,B,w,l⟩ fH;have y:j<ts.length:=by rw[qC]at hj;exact hj
  rw[rL]at fH;simp only[jF,kV]at fH;subst fH;have qO:=tm.ext ((G.trans x4).trans g1);obtain⟨vv,kv,fg,yd,kR⟩:=tm.row y;rw[fg,Cz];have aZ:=uG ts[j] (κ.one yd) (κ.one kR) (i:=j);refine aP<|bN <| λh7 D auO a7 L=>aR U U a7 (bS rfl rfl aZ) <| λh8 a8 b8=>δ ⟨rfl,by rw[b8 _ (by omega),L.2 _ sG],λA M=>?_⟩;have o:Cl A D m1 (kQ ts[j] vv kv j) 95:=(Cl.Ξ ⟨by omega,a8⟩ M (by omega));have p:Ext H r A D:=((g1.trans L).Ξ b8 (by omega)).Ξ M (by omega);have N:Cl A D r [vo] 32:=((B.ext L).Ξ b8 (by omega)).Ξ M (by omega);have W:dB A 37 2 vo (mS ts j).length (fU (mS ts j)):=w.ext (l.imp id λg=>by rw[M _ (by omega),b8 _ (by omega),L.2 _ g.2]);have q9:A b=some (.c [t] e 0):=by rw[M _ (by omega),b8 _ (by omega),L.2 _ v];exact J
  refine aA ?_;have done:∀{h' n' E},Ext A D h' n'->mS ts (j+1)=mS ts j->blk 1 (Nx u (A u) (I (j+1)) λ_ _ _=>False) .normal E h' n':=by intro h' n' E ex hf;have:=ex.1;refine⟨by omega,ex.2 _ (by omega),p.trans ex,⟨by omega,by rw[ex.2 _ (by omega)];exact q9⟩,by omega,vo,N.ext ex,?_,l.imp id λg=>⟨g.1,by omega⟩⟩;rw[hf];exact W.ext (l.imp id λg=>ex.2 _ (by omega))
  by_cases a:ts[j].op=3
  case neg=>
   refine ε<|χ U<|χ U<|ν U (o.ld U _)<|dD U U<|γ U<|θ U (by simpa using a)<|θ U (by simpa using a)<|θ U (by simpa using a)<|θ U (by simpa using a)<|θ U (by simpa using a)<|θ U (by simpa using a)<|θ U (by simpa using a)<|θ U (by simpa using a)<|θ U (by simpa using a)<|aW U (by simpa using a) U<|γ U<|θ U U<|θ U U<|θ U U<|θ U U<|θ U U<|θ U U<|aW U U U<|δ ?_;exact az U U<|ay (done (Ext.refl _ _) (by rw[Dc y,Γ (by simp[a])]))
  have Zl:=ht.ext ((G.trans x4).trans p);by_cases d:binds ts j ts[j].name<0
  case neg=>
   refine ε<|χ U<|χ U<|ν U (o.ld U _)<|dD U U<|γ U<|ζ U (by simpa using a)<|ν U ((S.ext p).ld U _)<|ζ U (by simpa using a)<|ν U ((Z.ext p).ld U _)<|ζ U (by simpa using a)<|χ U<|ζ U (by simpa using a)<|ν U (o.ld U _)<|ζ U (by simpa using a)<|χ U<|ζ U (by simpa using a)<|χ U<|ζ U (by simpa using a)<|ν U (o.ld U _)<|ζ U (by simpa using a)<|ah U U<|Db s Zl hb (Zk.ext p) P y <| λjK dQ q=>ζ U (by simpa using a)<|aH U U<|bh U (by simpa using a) U<|γ U<|θ U (by simpa using d)<|θ U (by simpa using d)<|θ U (by simpa using d)<|θ U (by simpa using d)<|θ U (by simpa using d)<|θ U (by simpa using d)<|aW U (by simpa using d) U<|δ ?_;exact az U U<|ay (done q (by rw[Dc y,Γ (by simp[d])]))
  have fl:=LC ts j;have O:=l.imp id And.right;by_cases X:ts[j].name∈(mS ts j).map Prod.fst
  case pos=>
   refine ε<|χ U<|χ U<|ν U (o.ld U _)<|dD U U<|γ U<|ζ U (by simpa using a)<|ν U ((S.ext p).ld U _)<|ζ U (by simpa using a)<|ν U ((Z.ext p).ld U _)<|ζ U (by simpa using a)<|χ U<|ζ U (by simpa using a)<|ν U (o.ld U _)<|ζ U (by simpa using a)<|χ U<|ζ U (by simpa using a)<|χ U<|ζ U (by simpa using a)<|ν U (o.ld U _)<|ζ U (by simpa using a)<|ah U U<|Db s Zl hb (Zk.ext p) P y <| λjK dQ q=>ζ U (by simpa using a)<|aH U U<|bh U (by simpa using a) U<|γ U<|ζ U (by simpa using d)<|ν U ((N.ext q).ld U _)<|ζ U (by simpa using d)<|χ U<|ζ U (by simpa using d)<|χ U<|ζ U (by simpa using d)<|ν U ((o.ext q).ld U _)<|ζ U (by simpa using d)<|ah U U<|uI s (κ.ext (W.sl (n:=D) (O.imp id λg=>by omega)) q) (by omega) <| λiD uO yX=>ζ U (by simpa using d)<|cz U<|bh U (by simpa using d) U<|δ ?_;exact az U (by simp only[X,decide_true];rfl)<|ay (done (q.trans yX) (by rw[Dc y,Γ (by simp[X])]))
  refine ε<|χ U<|χ U<|ν U (o.ld U _)<|dD U U<|γ U<|ζ U (by simpa using a)<|ν U ((S.ext p).ld U _)<|ζ U (by simpa using a)<|ν U ((Z.ext p).ld U _)<|ζ U (by simpa using a)<|χ U<|ζ U (by simpa using a)<|ν U (o.ld U _)<|ζ U (by simpa using a)<|χ U<|ζ U (by simpa using a)<|χ U<|ζ U (by simpa using a)<|ν U (o.ld U _)<|ζ U (by simpa using a)<|ah U U<|Db s Zl hb (Zk.ext p) P y <| λjK dQ q=>ζ U (by simpa using a)<|aH U U<|bh U (by simpa using a) U<|γ U<|ζ U (by simpa using d)<|ν U ((N.ext q).ld U _)<|ζ U (by simpa using d)<|χ U<|ζ U (by simpa using d)<|χ U<|ζ U (by simpa using d)<|ν U ((o.ext q).ld U _)<|ζ U (by simpa using d)<|ah U U<|uI s (κ.ext (W.sl (n:=D) (O.imp id λg=>by omega)) q) (by omega) <| λiD uO yX=>ζ U (by simpa using d)<|cz U<|bh U (by simpa using d) U<|δ ?_;refine ax U (by simp only[X,decide_false];rfl) ?_;have F:=q.trans yX;have Ee:=W.ext (h':=iD) (O.imp id λg=>F.2 _ (by omega));have z11:=F.1;refine aP<|ν U ((N.ext F).ld U _)<|χ U<|χ U<|ν U ((o.ext F).ld U _)<|χ U<|χ U<|ν U ((o.ext F).ld U _)<|px U<|jJ U <| λhU vI Q5 CW Y=>uq U (Ee.ext (O.imp id λg=>Y.2 _ (by omega))) U (κ.whole (len:=1) (z:=2) (by omega) CW rfl) (by omega) (by omega) (by omega) (by omega) U (O.imp id λg=>by omega) <| λv13 pZ xa Bk Zm aku N1=>aR U U ((N1 _ (by omega) (l.imp id λg=>by omega)).trans ((Y.2 _ (by omega)).trans (N.ext F).2)) (mB Bk.cells Bk.one U) <| λuP D6 uo=>δ ?_;have z12:=Y.1;have hk:∀k:K,k.num<D.num->(vo=.ns\/k.num≠vo.blk.num)->k.num≠r.num->uP k=A k:=λk h1 h2 a=>by rw[uo k a,N1 k (by omega) h2,Y.2 k (by omega),F.2 k h1]
  have z9:=p.1;refine⟨by omega,hk _ (by omega) (l.imp id λg=>by omega) (by omega),⟨by omega,λk h1=>by rw[hk k (by omega) (l.imp id λg=>by omega) (by omega),p.2 k h1]⟩,⟨by omega,by rw[hk _ (by omega) (l.imp id λg=>by omega) (by omega)];exact q9⟩,by omega,v13,⟨by omega,D6⟩,?_,Or.inr ⟨by rw[Zm];omega,by rw[Zm];omega⟩⟩;rw[Dc y,ab ⟨a,d,X⟩,jz,QL];exact Bk.ext (Or.inr (uo _ (by rw[Zm];omega)))
 ·rintro h' n' mQ ⟨g1,_,T,vo,B,w,l⟩;rw[qC]at w;refine ε<|ν U (B.ld U _)<|γ U<|δ (aj ⟨_,rfl,hQ _ _ _ ((G.trans x4).trans g1) (w.sl (l.imp id And.right)) (l.imp id λg=>by omega)⟩)
 ·rintro ex h' n' h2 jh hf;exact hf.elim
end
section
variable {C:Nat->Option aE}{h:Hf}{n:K}{Q:V->Hf->K->Prop}
end
section
abbrev Bi:=S×List Nd
def jS:List Bi->List V->List V
 | x::l,m::ms=>st x.1::m::jS l ms
 | _,_=>[]
def UC:∀{l:List Bi} {ms:List V} (hm:ms.length=l.length) {i:Nat} (h:i<l.length),((jS l ms).drop (i*2)).take 2=[st l[i].1,ms[i]'(by omega)]
 | [],_,_,i,h=>by simp at h
 | x::l,[],hm,_,_=>by simp at hm
 | x::l,m::ms,hm,0,_=>by simp[jS]
 | x::l,m::ms,hm,i+1,h=>by rw[show(i+1)*2=i*2+2 by omega];simp only[jS,zu,oV];exact UC (by simpa using hm) (by simpa using h)
def LG:∀{l:List Bi} {ms:List V} (hm:ms.length=l.length) (l':List Bi) (a:List V),jS (l++l') (ms++a)=jS l ms++jS l' a
 | [],[],_,_,_=>rfl
 | [],_::_,hm,_,_=>by simp at hm
 | x::l,[],hm,_,_=>by simp at hm
 | x::l,m::ms,hm,l',a=>by simp only[j8,jS,LG (show ms.length=l.length by simpa using hm)]
def fL(h:Hf)(n:K)(v:V)(l:List Bi):Prop:=∃ms:List V,∃hm:ms.length=l.length,κ h n 2 v l.length (jS l ms)/\∀i (hi:i<l.length),bK h n (ms[i]'(by omega)) l[i].2
section
variable {h h':Hf}{n n':K}{v:V}{l:List Bi}
def fL.ext(a:fL h n v l)(e:Ext h n h' n'):fL h' n' v l:=by obtain⟨ms,hm,h1,h2⟩:=a;exact⟨ms,hm,h1.ext e,λi hi=>(h2 i hi).ext e⟩
def fL.sl(a:fL h n v l):∃cs,κ h n 2 v l.length cs:=by obtain⟨ms,hm,h1,_⟩:=a;exact⟨_,h1⟩
def fL.at(a:fL h n v l){i:Nat}(hi:i<l.length):∃m,bc h true 2 (.p v.blk (v.off+i*2))=some (.a [st l[i].1,m])/\bK h n m l[i].2:=by obtain⟨ms,hm,h1,h2⟩:=a;exact⟨_,by rw[h1.jG (by omega) (by omega),UC hm hi],h2 i hi⟩
end
def eD(name:S):List Bi->Option (List Nd)
 | []=>none
 | p::l=>if p.1=name then some p.2 else eD name l
variable {C:Nat->Option aE}{h:Hf}{n:K}{Q:V->Hf->K->Prop}
def UD{E:Env}{k k':K}{sz:Nat}{p v w:V}(h1:lk E k=some p)(h2:bc h true sz p=some v)(a:lk E k'=some w):kA [.cell k true sz,.t k'] E h=some (.u [v,w]):=by simp only[kA,qm,sW,h1,h2,a]
def Zo(G:Cd C){v:V}{l:List Bi}{name:S}(hv:fL h n v l)(hlen:l.length<1000000)(A:∀s m h' n',Ext h n h' n'->bK h' n' m ((eD name l).getD [])->Q (.u [.a [st s,m],.b (eD name l).isSome]) h' n'):μ C (.f 49 [] []) [v,st name] h n Q:=by
 refine μ.go G.f49 U ?_;obtain⟨cs,hs⟩:=hv.sl;refine ε<|bN <| λh1 n1 T B d=>γ U<|δ ?_;refine φ<|ε<|γ U<|aJ U (hs.ext d)<|γ U<|δ ?_;have loop:∀(r i:Nat) (h':Hf) (n':K),l.length - i=r->i<=l.length->Ext h1 n1 h' n'->eD name l=eD name (l.drop i)->WC C aep [(k1,st name),(k4,.p n 0),(k8,v),(k9,iN l.length),(oK,iN i)] h' n' (blk 0 (sq C aer (fq [.cell k4 true 2,.t k5] Q))):=by
  intro r
  induction r with
  | zero=>
   intro i h' n' H hi e hf;have:i=l.length:=by omega
   subst this;rw[oS]at hf;have x:h' n=some (.c [.s 0 0,.ns] 39 0):=(e.2 n (by omega)).trans B;have I:=e.1;refine aF ?_;refine ε<|aH U U<|δ ?_;refine φ<|az U (by simp)<|bG ?_;refine ε<|px U<|aR U U x (bS (l:=[.s 0 0,.ns]) U U U) <| λj o b3=>γ U<|δ ?_;refine aj ⟨_,UD rfl (bP o (kC rfl)) U,?_⟩;have:=A [] .ns j n' ((d.trans e).Ξ b3 (ξ _)) (by rw[hf];exact bK.nil _ _);rw[hf]at this;exact this
  | succ r ih=>
   intro i h' n' H hi e hf;have q:i<l.length:=by omega
   obtain⟨m,D,tm⟩:=(hv.ext (d.trans e)).at q;have I:=e.1;rw[gL q,eD]at hf;refine aF ?_;refine ε<|aH U U<|δ ?_;refine φ<|ax U (by simp;omega)<|ay ?_;have E:aB [st l[i].1,m]=true:=by simp only[aB,tm.one];rfl
   refine φ<|aA<|ε<|aV U U (hs.ext (d.trans e)) q<|ν U D<|bN <| λh2 k W x J=>aR U U x (bS (l:=[st l[i].1,m]) U U E) <| λj o b3=>δ ?_;have b3:bA n' h2 j:=b3;have y:Ext h' n' j k:=J.Ξ b3 (ξ _);refine ε<|χ U<|ν U (cH o rfl _)<|γ U<|iS U U<|δ ?_;by_cases w:l[i].1=name
   ·rw[ab w]at hf;refine ax U (by simpa using w) ?_;have L:j n=some (.c [.s 0 0,.ns] 39 0):=(y.2 n (by omega)).trans ((e.2 n (by omega)).trans B);refine ε<|ν U (bP o (kC rfl))<|aR U U L (bS (l:=[st l[i].1,m]) U U E) <| λz M b5=>γ U<|δ ?_;refine aj ⟨_,UD rfl (bP M (kC rfl)) U,?_⟩;have F:Ext h n z k:=((d.trans e).trans y).Ξ b5 (ξ _);have N:bK z k m l[i].2:=by
     obtain⟨O,P,R⟩:=hv.at q;have:O=m:=by have g:=(d.trans e).ld (hs.xF (by omega)) true 2 (v.off+i*2);rw[P,D]at g;injection g with g;injection g with g;injection g with _ g;injection g with g;exact g.symm
     subst this;exact R.ext F
    have:=A l[i].1 m z k F (by rw[hf];exact N);rw[hf]at this;exact this
   ·rw[Γ w]at hf;refine az U (by simpa using w)<|ay ?_;refine aP<|cj U U ⟨by omega,by omega⟩<|γ U<|δ ?_;exact au (ih (i+1) j k (by omega) (by omega) (e.trans y) hf) (Θ.rf U)
 exact aA<|au (loop _ 0 h1 n1 rfl (by omega) (Ext.refl _ _) U) (Θ.rf U)
end
section
variable {C:Nat->Option aE}{h:Hf}{n:K}{Q:V->Hf->K->Prop}
def og(ts:List Nd)(l:List Bi):Nat->Int
 | 0=>ts.length
 | i+1=>match ts[i]? with
  | some x=>if x.op=3/\binds ts i x.name<0 then (match eD x.name l with | some b=>og ts l i+(b.length:Int) - 1 | none=>og ts l i) else og ts l i
  | none=>og ts l i
def Ef(ts:List Nd)(l:List Bi):Int:=og ts l ts.length
def Ar{ts:List Nd}{l:List Bi}{i:Nat}(hi:i<ts.length):og ts l (i+1)=if ts[i].op=3/\binds ts i ts[i].name<0 then (match eD ts[i].name l with | some b=>og ts l i+(b.length:Int) - 1 | none=>og ts l i) else og ts l i:=by simp only[og,aX hi]
def uS{name:S}:∀{l:List Bi} {b:List Nd},eD name l=some b->∃p∈l,p.2=b
 | [],b,h=>by cases h
 | p::l,b,h=>by
  unfold eD at h;split at h
  ·injection h with h;exact⟨p,by simp,h⟩
  ·obtain⟨q,h1,h2⟩:=uS h;exact⟨q,by simp[h1],h2⟩
def UE{ts:List Nd}{l:List Bi}(hl:∀p∈l,p.2.length<100000):∀i,(ts.length:Int) - i<=og ts l i/\og ts l i<=ts.length+i*100000
 | 0=>by simp[og]
 | i+1=>by
  have:=UE (ts:=ts) hl i;unfold og;split
  ·split
   ·split
    ·rename_i b hb;obtain⟨p,h1,h2⟩:=uS hb;have:=hl p h1;rw[h2]at this;omega
    ·omega
   ·omega
  ·omega
def w51(A:Cd C){t vl:V}{ts:List Nd}{l:List Bi}(ht:bK h n t ts)(hl:fL h n vl l)(hb:Bd ts)(h0:0<ts.length)(T:∀j,j<ts.length->ord ts j=true)(lU:∀p∈l,p.2.length<100000)(iF:l.length<1000000)
 (hQ:∀h' n',Ext h n h' n'->Q (.i .i64 (Ef ts l)) h' n'):μ C (.f 51 [] []) [t,vl] h n Q:=by
 have hlen:=hb.len;obtain⟨m,tm⟩:=ht.get;obtain⟨ls,yU⟩:=hl.sl;refine μ.go A.f51 U ?_;refine ε<|eL U ht.cells (by simp only[aB,ht.one];rfl) <| λh1 n1 dd a1 e1=>eL U yU.cells (by simp only[aB,yU.one];rfl) <| λh2 W iw a2 e2=>γ U<|δ ?_;have F:Cl h2 W n [t] 23:=Cl.ext ⟨by omega,a1⟩ e2;have cl:Cl h2 W n1 [vl] 111:=⟨by omega,a2⟩;have x2:=e1.trans e2;refine ε<|ν U (F.ld U _)<|ah U U<|Uy A (ht.ext x2) (by omega) h0 hb.jM T <| λvu h3 n3 X M=>bN <| λh4 k mQ a4 e4=>aR U U a4 (mB M.cells M.one U) <| λB a5 b5=>δ ?_;have u:Ext h2 W B k:=(X.trans e4).Ξ b5 (by have:=X.1;omega);have z3:=X.1;have cu:Cl B k n3 [vu] 33:=⟨by omega,a5⟩;have iu5:fh B k .i64 vu (p0 ts):=κ.Ξ (M.ext e4) b5 (M.dT.imp id λg=>by omega);obtain⟨cs,hs⟩:=(ht.ext (x2.trans u)).sl;refine ε<|ν U ((F.ext u).ld U _)<|aJ U hs<|bN <| λh6 n6 jh a6 e6=>aR U U a6 U <| λh7 Y b7=>δ ?_;have Z:Ext B k h7 n6:=e6.Ξ b7 (ξ _);have Y:h7 k=some (.c [.i .i64 (og ts l 0)] 3 0):=Y;have y7:=u.trans Z;refine φ<|ε<|ν U ((F.ext y7).ld U _)<|ah U U<|Ko A (tm.ext (x2.trans y7)) (by omega) ?_;intro b e h8 D x8 a8 hb8 auP it;refine δ<|aA ?_;have z8:=x8.1;have z7:=Z.1;have z5:=u.1;let I:Nat->Hf->K->Prop:=λi h' n'=>Ext B k h' n'/\(b.num<n'.num/\h' b=some (.c [t] e 0))/\D.num<n'.num/\Cl h' n' k [.i .i64 (og ts l i)] 3;refine tj U it I (λ_ _ _=>False) ?_ ?_ ?_ ?_ ?_ ?_ ?_ ?_
 ·rintro j h1 n1 h' n' ⟨g1,⟨o,G⟩,N,q⟩ ex;have:=ex.1;exact⟨g1.trans ex,⟨by omega,by rw[ex.2 _ o];exact G⟩,by omega,q.ext ex⟩
 ·rintro j h1 n1 h' ⟨g1,⟨o,G⟩,N,q⟩ d;exact⟨g1.Ξ d (by omega),⟨o,by rw[d _ (by omega)];exact G⟩,N,q.Ξ d (by omega)⟩
 ·rintro j h1 n1 ⟨g1,o,_⟩;exact⟨o.1,o.2,tm.ext ((x2.trans u).trans g1)⟩
 ·intro j hj;rw[rL];rfl
 ·intro h' d;have hs:D.succ.num=D.num+1:=K.eI D;refine⟨((Z.trans x8).Ξ d (by omega)).succ,⟨by omega,by rw[d _ (by omega)];exact a8⟩,by omega,⟨by omega,?_⟩⟩;rw[d _ (by omega),x8.2 _ (by omega)];exact Y
 ·rintro j hj h1 m1 E1 Y5 ⟨g1,⟨o,G⟩,N,q⟩ fH;have v:j<ts.length:=by rw[qC]at hj;exact hj
  rw[rL]at fH;simp only[jF,kV]at fH;subst fH;obtain⟨vv,kv,fg,yd,kR⟩:=tm.row v;rw[fg,Cz];have aZ:=uG ts[j] (κ.one yd) (κ.one kR) (i:=j);refine aP<|bN <| λh9 H auQ a9 O=>aR U U a9 (bS rfl rfl aZ) <| λjK sr P=>δ ⟨rfl,by rw[P _ (by omega),O.2 _ Y5],λw R=>?_⟩;have r:Cl w H m1 (kQ ts[j] vv kv j) 95:=(Cl.Ξ ⟨by omega,sr⟩ R (by omega));have x:Ext B k w H:=((g1.trans O).Ξ P (by omega)).Ξ R (by omega);have LH:Cl w H k [.i .i64 (og ts l j)] 3:=((q.ext O).Ξ P (by omega)).Ξ R (by omega);have Oo:w b=some (.c [t] e 0):=by rw[R _ (by omega),P _ (by omega),O.2 _ o];exact G
  refine aA ?_;have done:∀{h' n' E},Ext w H h' n'->og ts l (j+1)=og ts l j->blk 1 (Nx D (w D) (I (j+1)) λ_ _ _=>False) .normal E h' n':=by intro h' n' E ex hf;have:=ex.1;refine⟨by omega,ex.2 _ (by omega),x.trans ex,⟨by omega,by rw[ex.2 _ (by omega)];exact Oo⟩,by omega,?_⟩;rw[hf];exact LH.ext ex
  by_cases a:ts[j].op=3
  case neg=>
   refine ε<|χ U<|χ U<|ν U (r.ld U _)<|dD U U<|γ U<|θ U (by simpa using a)<|θ U (by simpa using a)<|θ U (by simpa using a)<|θ U (by simpa using a)<|θ U (by simpa using a)<|θ U (by simpa using a)<|θ U (by simpa using a)<|θ U (by simpa using a)<|θ U (by simpa using a)<|aW U (by simpa using a) U<|δ ?_;exact az U U<|ay (done (Ext.refl _ _) (by rw[Ar v,Γ (by simp[a])]))
  have J:=u.trans x;have UF:=ht.ext (x2.trans J);by_cases L:binds ts j ts[j].name<0
  case neg=>
   refine ε<|χ U<|χ U<|ν U (r.ld U _)<|dD U U<|γ U<|ζ U (by simpa using a)<|ν U ((F.ext J).ld U _)<|ζ U (by simpa using a)<|ν U ((cu.ext x).ld U _)<|ζ U (by simpa using a)<|χ U<|ζ U (by simpa using a)<|ν U (r.ld U _)<|ζ U (by simpa using a)<|χ U<|ζ U (by simpa using a)<|χ U<|ζ U (by simpa using a)<|ν U (r.ld U _)<|ζ U (by simpa using a)<|ah U U<|Db A UF hb (iu5.ext x) T v <| λhU vI y=>ζ U (by simpa using a)<|aH U U<|bh U (by simpa using a) U<|δ ?_;exact az U (by simpa using L)<|ay (done y (by rw[Ar v,Γ (by simp[L])]))
  refine ε<|χ U<|χ U<|ν U (r.ld U _)<|dD U U<|γ U<|ζ U (by simpa using a)<|ν U ((F.ext J).ld U _)<|ζ U (by simpa using a)<|ν U ((cu.ext x).ld U _)<|ζ U (by simpa using a)<|χ U<|ζ U (by simpa using a)<|ν U (r.ld U _)<|ζ U (by simpa using a)<|χ U<|ζ U (by simpa using a)<|χ U<|ζ U (by simpa using a)<|ν U (r.ld U _)<|ζ U (by simpa using a)<|ah U U<|Db A UF hb (iu5.ext x) T v <| λhU vI y=>ζ U (by simpa using a)<|aH U U<|bh U (by simpa using a) U<|δ ?_;refine ax U (by simpa using L) ?_;have z12:=y.1;refine ε<|ν U ((cl.ext (J.trans y)).ld U _)<|χ U<|χ U<|ν U ((r.ext y).ld U _)<|ah U U<|Zo A (hl.ext ((x2.trans J).trans y)) (by omega) <| λs mm pZ xa nZ im=>γ U<|bU U U<|bU U U<|bN <| λuP Ea auR D6 xf=>aR U U D6 (bS (l:=[.s 0 0,.ns]) (cs:=[st s,mm]) U U (by simp only[aB,im.one];rfl)) <| λoQ K1 S=>γ U<|δ ?_;have z13:=nZ.1;have S:bA xa uP oQ:=S;have z:Ext w H oQ Ea:=((y.trans nZ).trans xf).Ξ S (by omega);refine ε<|γ U<|δ ?_;cases hf:eD ts[j].name l with
  | none=>exact az U U<|ay (done z (by rw[Ar v,ab ⟨a,L⟩,hf]))
  | some d=>
   rw[hf]at im;obtain⟨ms,Ht⟩:=(show bK pZ xa mm d from im).sl;have gg:d.length<100000:=by obtain⟨p,h1,h2⟩:=uS hf;rw[←h2];exact lU p h1
   have Oq:=UE (ts:=ts) lU j;refine ax U U ?_;have rS:Ext pZ xa oQ Ea:=xf.Ξ S (ξ _);refine aP<|ν U ((LH.ext z).ld U _)<|χ U<|ν U (cH K1 rfl _)<|aJ U (Ht.ext rS)<|pn U U ⟨by omega,by omega⟩<|cj U U ⟨by omega,by omega⟩<|aR U U ((LH.ext z).2) U <| λLJ Zp Zq=>δ ?_;have Zp:LJ k=some (.c [.i .i64 (og ts l j+((d.length:Int) - 1))] 3 0):=Zp;have z15:=z.1;refine⟨by omega,by rw[Zq _ (by omega),z.2 _ (by omega)],(x.trans z).Ξ Zq (ξ _),⟨by omega,by rw[Zq _ (by omega),z.2 _ (by omega)];exact Oo⟩,by omega,⟨by omega,?_⟩⟩;rw[Zp,Ar v,ab ⟨a,L⟩,hf];simp only[Int.add_sub_assoc]
 ·rintro h' n' mQ ⟨g1,_,N,q⟩;rw[qC]at q;refine ε<|ν U (q.ld U _)<|γ U<|δ (aj ⟨_,rfl,hQ _ _ ((x2.trans u).trans g1)⟩)
 ·rintro ex h' n' h2 jh hf;exact hf.elim
end
section
variable {C:Nat->Option aE}{h:Hf}{n:K}{Q:V->Hf->K->Prop}
def dJ(name sort:S):List Nd:=[⟨3,sort,name,[],[]⟩]
def w28{g:Nat}(a:C g=some (.go f28)){name sort:S}(d:∀b h' n',Ext h n h' n'->n.num<=b.num->b.num<n'.num->h' b=some (.c [.i .i64 3,st sort,st name,.ns,.ns] 35 0)->Q (.sl b 0 1 1) h' n'):μ C (.f g [] []) [st name,st sort] h n Q:=by refine μ.go a rfl ?_;refine ε<|γ U<|δ ?_;refine ε<|γ U<|γ U<|px U<|jJ U <| λh1 n1 k e j=>γ U<|δ (aj ⟨_,rfl,d n h1 n1 j (ξ _) (by omega) e⟩)
def Wh.low{lo c hi:K}{w:V}{x:List (List Nd)}(a:Wh h lo hi w x)(e:c.num<=lo.num):Wh h c hi w x:=λg d=>a g λb b1 b2=>d b (by omega) b2
def UG{g:Nat}(x:C g=some (.go f193)){v k:V}{cs:List V}{len:Nat}{of:Nat->List Nd}(hv:κ h n 1 v len cs)(hlen:len<1000000)
 (hf:∀i w h' n' {Q':V->Hf->K->Prop},i<len->nth cs i=some w->Ext h n h' n'->(∀c h2 d,Ext h' n' h2 d->TG h2 n' d c (of i)->Q' c h2 d)->μ C k [w] h' n' Q')
 (y:∀v' h' n',Ext h n h' n'->Wh h' n n' v' ((List.range len).map of)->Q v' h' n'):μ C (.f g [] []) [v,k] h n Q:=by
 refine μ.go x rfl ?_;refine ε<|γ U<|δ ?_;refine ε<|γ U<|δ ?_;refine φ<|ε<|γ U<|aJ U hv<|γ U<|δ ?_;have loop:∀(r i:Nat) (w:V) (us:List V) (h':Hf) (n':K),len - i=r->i<=len->Bj h n h' n' w ((List.range i).map of) us->C8 n h' w ((List.range i).map of) us->WC C aeN [(k1,k),(k5,w),(k8,v),(k9,iN len),(oK,iN i)] h' n' (blk 0 (sq C aeO (fq [.t k4] Q))):=by
  intro r
  induction r with
  | zero=>
   intro i w us h' n' z hi g b;have:i=len:=by omega
   subst this;refine aF ?_;refine ε<|aH U U<|δ ?_;refine φ<|az U (by simp)<|bG ?_;refine ε<|γ U<|γ U<|δ (aj ⟨_,rfl,y w h' n' g.2.1.ext (C8.wh g b)⟩)
  | succ r ih=>
   intro i w us h' n' z hi g b;have m:i<len:=by omega
   have gr:=g.2.1;have o:((List.range i).map of).length=i:=by simp
   rw[o]at gr;have M:cs.length=len*1:=hv.1;have p:nth cs i=some (cs[i]'(by omega)):=KB (by omega);refine aF ?_;refine ε<|aH U U<|δ ?_;refine φ<|ax U (by simp;omega)<|ay ?_;refine φ<|aA<|ε<|aV U U (hv.ext gr.ext) m<|ν U (by have:=(hv.ext gr.ext).get p 1;rw[kp];exact this)<|γ U<|δ ?_;refine aP<|γ U<|γ U<|γ U<|ah U U<|hf i _ _ _ m p gr.ext <| λc h2 d e tg=>jJ (rP rfl tg.t.cells tg.t.one) <| λN A O B a=>uq U (((gr.on e).on a).own) U (κ.whole (len:=1) (by omega) B rfl) (by omega) (by omega) (by omega) (by omega) (by simp only[aB,tg.t.one];rfl) (((gr.on e).on a).lt) <| λD q E o4 s F l=>γ U<|δ ?_;have G:=gr.lt;have H:=a.1;have I:=gr.ext.1;have u:=(TG.skip (h':=q) (n':=A) tg (λb P J=>by rw[l b (by omega) (G.imp id λh=>by omega),a.2 b J]) H).low I;have L:=g.app (e.trans a) u.t (by rw[o];exact o4) s F l;have b4:=C8.app g b (e.trans a) u s l;refine aP<|cj U U ⟨by omega,by omega⟩<|γ U<|δ ?_;refine au (ih (i+1) D (us++[c]) q E (by omega) (by omega) ?_ ?_) (Θ.rf U)
   ·rw[List.range_succ,List.map_append];exact L
   ·rw[List.range_succ,List.map_append];exact b4
 exact aA<|au (loop _ 0 .ns [] h n rfl (by omega) (Bj.nil (Ext.refl _ _)) (λj g=>by simp at g)) (Θ.rf U)
def alZ(a:Cd C){t:V}{ts:List Nd}(ht:bK h n t ts)(hb:Bd ts)(h0:0<ts.length)(k:∀j,j<ts.length->ord ts j=true)
 (s:∀v' h' n',Ext h n h' n'->Wh h' n n' v' (parts ts)->Q v' h' n'):μ C (.f 112 [] []) [t] h n Q:=by
 have hlen:=hb.len;have d:ts.length - 1<ts.length:=by omega
 refine μ.go a.f112 U ?_;refine ε<|eL U ht.cells (by simp only[aB,ht.one];rfl) <| λh1 n1 G u e=>γ U<|δ ?_;have l:Cl h1 n1 n [t] 23:=⟨by omega,u⟩;obtain⟨m,tm⟩:=ht.ext e;have v:=FU d (k _ d);have x:=hb.jM _ d;refine ε<|ν U (l.ld U _)<|ah U U<|w90 a tm (by omega) h0 <| λh2 H vv kv b _ _ y=>adt U U<|rD U U<|ah U U<|UG a.f193 (of:=λi=>part ts ((ts[ts.length - 1].kids.getD i 0).toNat)) (fh.ext y b) x (λi w o p Q' hi c g q=>?_) <| λz o p g l3=>γ U<|δ (aj ⟨_,rfl,s z o p ((e.trans b).trans g) ?_⟩)
 ·rw[Fh _ hi]at c;injection c with c;have:=v _ (bL hi);obtain⟨k',r⟩:∃k':Nat,ts[ts.length - 1].kids[i]=(k':Int):=⟨ts[ts.length - 1].kids[i].toNat,by omega⟩;have A:ts[ts.length - 1].kids.getD i 0=(k':Int):=by rw[dY,aX hi];exact r
  rw[r]at c;simp only[A,Int.toNat_natCast]at q;subst c;refine μ.go a.f194 U ?_;refine ε<|γ U<|δ ?_;refine ε<|ν U ((l.ext (b.trans g)).ld U _)<|γ U<|ah U U<|alj a (ht.ext ((e.trans b).trans g)) hb (i:=k') (by omega) k <| λB D E F tg=>γ U<|δ (aj ⟨_,rfl,q B D E F tg⟩)
 ·have:parts ts=(List.range ts[ts.length - 1].kids.length).map λi=>part ts ((ts[ts.length - 1].kids.getD i 0).toNat):=by
   unfold parts;rw[jW d];apply qg (by simp);intro j h1 h2;have hj:j<ts[ts.length - 1].kids.length:=by simpa using h1
   simp only[List.getElem_map,List.getElem_range,dY,aX hj,Option.getD_some]
  rw[this];exact l3.low ((e.trans b).1)
end
section
variable {C:Nat->Option aE}{h:Hf}{n:K}{Q:V->Hf->K->Prop}
def Ge{α:Type}(p:α->Bool)(l:List α)(r:Int):Prop:=(r = -1/\∀x∈l,p x=false)\/∃k,∃a:k<l.length,r=(k:Int)/\p l[k]=true/\∀x∈l.take k,p x=false
def Ge.any{α:Type}{p:α->Bool}{l:List α}{r:Int}(a:Ge p l r):decide (0<=r)=l.any p:=by
 rcases a with ⟨rfl,h⟩ | ⟨k,b,rfl,h,_⟩
 ·rw[fB (by omega)];symm;rw[List.any_eq_false];intro x c;rw[h x c];decide
 ·rw[qb (by omega)];symm;rw[List.any_eq_true];exact⟨_,bL b,h⟩
def UH{g:Nat}(u:C g=some (.go f196)){v k:V}{l:List Bi}{p:Bi->Bool}(hv:fL h n v l)(hlen:l.length<1000000)
 (hf:∀x m h' n' {Q':V->Hf->K->Prop},x∈l->bK h' n' m x.2->Ext h n h' n'->(∀h2 c,Ext h' n' h2 c->Q' (.b (p x)) h2 c)->μ C k [.a [st x.1,m]] h' n' Q')
 (o:∀r h' n',Ext h n h' n'->Ge p l r->Q (.i .i64 r) h' n'):μ C (.f g [] []) [v,k] h n Q:=by
 refine μ.go u rfl ?_;obtain⟨cs,hs⟩:=hv.sl;refine ε<|γ U<|δ ?_;refine φ<|ε<|γ U<|aJ U hs<|γ U<|δ ?_;have loop:∀(r i:Nat) (h':Hf) (n':K),l.length - i=r->i<=l.length->Ext h n h' n'->(∀x∈l.take i,p x=false)->WC C aeQ [(k0,v),(k1,k),(k7,iN l.length),(k8,iN i)] h' n' (blk 0 (sq C aeR (fq [.t k4] Q))):=by
  intro r
  induction r with
  | zero=>
   intro i h' n' w hi e hp;have:i=l.length:=by omega
   subst this;rw[fO]at hp;refine aF ?_;refine ε<|aH U U<|δ ?_;refine φ<|az U (by simp)<|bG ?_;refine ε<|γ U<|δ (aj ⟨_,rfl,o (-1) h' n' e (Or.inl ⟨rfl,hp⟩)⟩)
  | succ r ih=>
   intro i h' n' w hi e hp;have d:i<l.length:=by omega
   obtain⟨m,y,tm⟩:=(hv.ext e).at d;refine aF ?_;refine ε<|aH U U<|δ ?_;refine φ<|ax U (by simp;omega)<|ay ?_;refine φ<|aA<|ε<|γ U<|γ U<|δ ?_;refine ε<|γ U<|γ U<|γ U<|aV U U (hs.ext e) d<|ν U y<|ah U U<|hf l[i] m _ _ (bL d) tm e <| λh2 c q=>δ ?_;by_cases j:p l[i]=true
   ·refine ax U j ?_;refine ε<|γ U<|γ U<|δ (aj ⟨_,rfl,o i h2 c (e.trans q) (Or.inr ⟨i,d,rfl,j,hp⟩)⟩)
   ·refine az U (by simpa using j)<|ay ?_;refine aP<|cj U U ⟨by omega,by omega⟩<|γ U<|δ ?_;refine au (ih (i+1) h2 c (by omega) (by omega) (e.trans q) ?_) (Θ.rf U);intro x s;rw[gm d]at s;rcases eG.1 s with g | g
    ·exact hp x g
    ·rw[gF]at g;subst g;simpa using j
 exact aA<|au (loop _ 0 h n rfl (by omega) (Ext.refl _ _) (by simp)) (Θ.rf U)
def al0(c:Cd C){v d:V}{l:List Bi}{p:Bi->Bool}(hv:fL h n v l)(hlen:l.length<1000000)
 (hf:∀x m h' n' {Q':V->Hf->K->Prop},x∈l->bK h' n' m x.2->Ext h n h' n'->(∀h2 e,Ext h' n' h2 e->Q' (.b (p x)) h2 e)->μ C d [.a [st x.1,m]] h' n' Q')
 (g:∀h' n',Ext h n h' n'->Q (.b (l.any p)) h' n'):μ C (.f 197 [] []) [v,d] h n Q:=by
 refine μ.go c.f197 U ?_;refine ε<|γ U<|δ ?_;refine ε<|γ U<|γ U<|ah U U<|UH c.f196 hv hlen hf <| λr h1 n1 i j=>iC U U<|γ U<|δ (aj ⟨_,rfl,?_⟩);rw[j.any];exact g h1 n1 i
def al1{g:Nat}(s:C g=some (.go f199)){v j:V}{l:List (List Nd)}{p:List Nd->Bool}(hv:nQ h n v l)(hlen:l.length<1000000)
 (hf:∀x m h' n' {Q':V->Hf->K->Prop},x∈l->bK h' n' m x->Ext h n h' n'->(∀h2 a,Ext h' n' h2 a->Q' (.b (p x)) h2 a)->μ C j [m] h' n' Q')
 (k:∀r h' n',Ext h n h' n'->Ge p l r->Q (.i .i64 r) h' n'):μ C (.f g [] []) [v,j] h n Q:=by
 refine μ.go s rfl ?_;obtain⟨cs,hs⟩:=hv.sl;refine ε<|γ U<|δ ?_;refine φ<|ε<|γ U<|aJ U hs<|γ U<|δ ?_;have loop:∀(r i:Nat) (h':Hf) (n':K),l.length - i=r->i<=l.length->Ext h n h' n'->(∀x∈l.take i,p x=false)->WC C aeS [(k0,v),(k1,j),(k7,iN l.length),(k8,iN i)] h' n' (blk 0 (sq C aeT (fq [.t k4] Q))):=by
  intro r
  induction r with
  | zero=>
   intro i h' n' u hi e hp;have:i=l.length:=by omega
   subst this;rw[fO]at hp;refine aF ?_;refine ε<|aH U U<|δ ?_;refine φ<|az U (by simp)<|bG ?_;refine ε<|γ U<|δ (aj ⟨_,rfl,k (-1) h' n' e (Or.inl ⟨rfl,hp⟩)⟩)
  | succ r ih=>
   intro i h' n' u hi e hp;have c:i<l.length:=by omega
   obtain⟨m,w,tm⟩:=(hv.ext e).get c;refine aF ?_;refine ε<|aH U U<|δ ?_;refine φ<|ax U (by simp;omega)<|ay ?_;refine φ<|aA<|ε<|γ U<|γ U<|δ ?_;refine ε<|γ U<|γ U<|γ U<|aV U U (hs.ext e) c<|ν U w<|ah U U<|hf l[i] m _ _ (bL c) tm e <| λh2 a o=>δ ?_;by_cases d:p l[i]=true
   ·refine ax U d ?_;refine ε<|γ U<|γ U<|δ (aj ⟨_,rfl,k i h2 a (e.trans o) (Or.inr ⟨i,c,rfl,d,hp⟩)⟩)
   ·refine az U (by simpa using d)<|ay ?_;refine aP<|cj U U ⟨by omega,by omega⟩<|γ U<|δ ?_;refine au (ih (i+1) h2 a (by omega) (by omega) (e.trans o) ?_) (Θ.rf U);intro x q;rw[gm c]at q;rcases eG.1 q with g | g
    ·exact hp x g
    ·rw[gF]at g;subst g;simpa using d
 exact aA<|au (loop _ 0 h n rfl (by omega) (Ext.refl _ _) (by simp)) (Θ.rf U)
def al2(a:Cd C){v c:V}{l:List (List Nd)}{p:List Nd->Bool}(hv:nQ h n v l)(hlen:l.length<1000000)
 (hf:∀x m h' n' {Q':V->Hf->K->Prop},x∈l->bK h' n' m x->Ext h n h' n'->(∀h2 d,Ext h' n' h2 d->Q' (.b (p x)) h2 d)->μ C c [m] h' n' Q')
 (e:∀h' n',Ext h n h' n'->Q (.b (l.any p)) h' n'):μ C (.f 118 [] []) [v,c] h n Q:=by
 refine μ.go a.f118 U ?_;refine ε<|γ U<|δ ?_;refine ε<|γ U<|γ U<|ah U U<|al1 a.f199 hv hlen hf <| λr h1 n1 g i=>iC U U<|γ U<|δ (aj ⟨_,rfl,?_⟩);rw[i.any];exact e h1 n1 g
def fM(name:S)(ts:List Nd):Bool:=decide (name∈(LB ts).map Prod.fst)
def kM(name:S)(l:List Bi):Bool:=l.any λb=>fM name b.2
def wC(name:S)(l:List (List Nd)):Bool:=l.any (fM name)
def LK{ts:List Nd}(g:Rt ts):(LB ts).length<1000000:=by have:=LC ts ts.length;have:=g.bd.len;unfold LB;omega
def Gf(a:Cd C){v:V}{l:List Bi}{name:S}(hv:fL h n v l)(hlen:l.length<1000000)(r:∀x∈l,Rt x.2)(s:∀h' n',Ext h n h' n'->Q (.b (kM name l)) h' n'):μ C (.f 117 [] []) [v,st name] h n Q:=by
 refine μ.go a.f117 U ?_;refine ε<|eL U U U <| λh1 n1 G t j=>γ U<|δ ?_;have u:Cl h1 n1 n [st name] 9:=⟨by omega,t⟩;refine ε<|γ U<|rD U U<|ah U U<|al0 a (p:=λb=>fM name b.2) (hv.ext j) hlen (λx m h2 k Q' w tm d y=>?_) <| λh2 k d=>γ U<|δ (aj ⟨_,rfl,s h2 k (j.trans d)⟩);have c:=r x w;refine μ.go a.f198 U ?_;have z:aB [st x.1,m]=true:=by simp only[aB,tm.one];rfl
 refine ε<|eL U U z <| λH I J A e=>γ U<|δ ?_;have o:=tm.ext e;have g:=u.ext (d.trans e);obtain⟨ms,q⟩:=o.sl;refine eT<|cI U<|aO U (cH A rfl _) (κ.below q (ξ _)) (κ.dL q)<|ch U U<|Zi a o c.bd c.pos c.ord <| λL M N i B _=>aO U ((g.ext i).ld U _) U (iR _ _)<|ch U U<|uI a B (LK c) <| λD E F=>aI U<|df (⟨⟨al (by simp[Nat.testBit]),cT (g.ld U _) ((g.ext i).ld U _),trivial⟩,⟨al (by simp[Nat.testBit]),al (by simp[Nat.testBit]),trivial⟩,trivial⟩) ?_;exact aj ⟨_,rfl,y D E ((e.trans i).trans F)⟩
def al3(c:Cd C){m:V}{x:List Nd}{name:S}{b:K}(tm:bK h n m x)(a:Rt x)(d:Cl h n b [st name] 9)(g:∀h' n',Ext h n h' n'->Q (.b (fM name x)) h' n'):μ C (.f 119 [] [.p b 0]) [m] h n Q:=by refine μ.go c.f119 U ?_;refine ε<|γ U<|δ ?_;refine eT<|aI U<|ch U U<|Zi c tm a.bd a.pos a.ord <| λo q r e i _=>aO U ((d.ext e).ld U _) U (iR _ _)<|ch U U<|uI c i (LK a) <| λj k l=>aI U<|df (⟨⟨al (by simp[Nat.testBit]),cT (d.ld U _) ((d.ext e).ld U _),trivial⟩,trivial⟩) ?_;exact aj ⟨_,rfl,g j k (e.trans l)⟩
end
section
variable {C:Nat->Option aE}{h:Hf}{n:K}{Q:V->Hf->K->Prop}
def cK(ts:List Nd)(l:List Bi):List Bi:=l.filter λb=>fM b.1 ts
def al4{l:List Bi}{ms:List V}(hm:ms.length=l.length){x:Bi}{m:V}:jS (l++[x]) (ms++[m])=jS l ms++[st x.1,m]:=by rw[LG hm];rfl
def UI{E:Env}{k:K}{a b x y:V}(h1:lk E k=some (.a [x,y]))(c:aB [x,y]=true):iQ E [a,b] [(0,2,.t k)]=some [x,y]:=by simp only[iQ,ge,h1,V.cells,eh,mW,c,cJ,over];rfl
end
end Go.Ev.X
namespace Go.Ev.X
open Go Go.Ev
section
def UJ:∀{a b:List V},aB a=true->aB b=true->aB (a++b)=true
 | [],b,_,h=>h
 | v::a,b,h,g=>by simp only[aB,aD]at h;simp only[j8,aB,h.1,UJ h.2 g,iX]
def UK{z:List V}(h:aB z=true):∀m,aB (dS z m)=true
 | 0=>rfl
 | m+1=>by simp only[dS];exact UJ h (UK h m)
section
variable {C:Nat->Option aE}{E:Env}{h:Hf}{n:K}{q:Env->Hf->K->Prop}{l:List AO}{Δ:Nat}{k:V->Hf->K->Prop}
def al5{z o len p:Nat}{x:ao}{lo:Option ao}{b:K}(c:ge E x=some (.su b o len z))(d:bd E 0 lo=some p)(h1:p<=len)(e:k (.su b (o+p*z) (len - p) z) h n):SO C (.sli (.sl z) x lo none none) E h n k:=
 fR (λ_ _ _ _=>rfl) (λT H a g=>by
  have f:=a.bd d;have b1:Nat.ble p len=true:=gk h1;have b2:Nat.ble len len=true:=gk (ξ _);have b3:Nat.beq z z=true:=by rw[dP];simp
  simp only[simple,a.ge c,lP,f,uh,b1,b2,b3,iX,cond_true,cU];rfl) e
def al6{d:K}{z o len p:Nat}{x:ao}{lo:Option ao}{b:K}(a:ge E x=some (.su b o len z))(c:bd E 0 lo=some p)(h1:p<=len)(e:WO C l ((d,.su b (o+p*z) (len - p) z)::E) h n q):WO C (⟨some d,.sli (.sl z) x lo none none,none,Δ⟩::l) E h n q:=bW (al5 a c h1 e)
def al7{z bC:List V}{x:ao}{b:K}{o len e t:Nat}(d:ge E x=some (.su b o len e))(hb:h b=some (.c bC t 0))(hl:o+(dS z len).length<=bC.length)(i:aB z=true)
 (f:∀h' new,h' b=some (.c new t 0)->new.length=bC.length->new.take o=bC.take o->bA b h h'->k (.u []) h' n):SO C (.GV z x) E h n k:=
 mz (λ_ _ _ _=>rfl) λT H g a=>by
  have j:H.get b=some (.c bC t 0):=by rw[a];exact hb
  by_cases h0:len=0
  ·subst h0;refine⟨.u [],H,n,?_,by rw[a];exact f h bC hb rfl rfl (λ_ _=>rfl)⟩;simp only[simple,g.ge d];rfl
  ·have hp:=Lx (vs:=dS z len) (o:=o) (l:=bC) hl;refine⟨.u [],H.put (some (.c (bC.take o++dS z len++bC.drop (o+(dS z len).length)) t 0)) b,n,?_,by rw[fE,a];exact f _ _ (eJ _ _ _) (by simp;omega) (by rw[ku,List.take_append_of_le_length (by simp;omega),List.take_take,Nat.min_self]) (jr _ _ _)⟩;have m:Nat.beq len 0=false:=by rw[dP];simp[h0]
   have p:gq H b o (dS z len)=some (H.put (some (.c (bC.take o++dS z len++bC.drop (o+(dS z len).length)) t 0)) b):=by simp only[gq,j,Nat.ble,UK i,iX,cond_true,hp]
   simp only[simple,g.ge d,m,cond_false,p];rfl
def al8{z bC:List V}{x:ao}{b:K}{o len e t:Nat}(a:ge E x=some (.su b o len e))(hb:h b=some (.c bC t 0))(hl:o+(dS z len).length<=bC.length)(d:aB z=true)
 (f:∀h' new,h' b=some (.c new t 0)->new.length=bC.length->new.take o=bC.take o->bA b h h'->WO C l E h' n q):WO C (⟨none,.GV z x,none,Δ⟩::l) E h n q:=bW (al7 a hb hl d f)
end
end
end Go.Ev.X
namespace Go.Ev.X
open Go Go.Ev
attribute [local irreducible] WC WO WD SO μ
section
variable {C:Nat->Option aE}{h:Hf}{n:K}{Q:V->Hf->K->Prop}
def UL(e:Cd C){t:V}{len:Nat}{cs:List V}(hs:κ h n 2 t len cs)(hlen:len<1000000)
 (a:∀v' h' n',Ext h n h' n'->Ow h' n' 39 2 v' len cs->(v'=.ns\/n.num<=v'.blk.num)->Q v' h' n'):μ C (.f 114 [] []) [t] h n Q:=by
 refine μ.go e.f114 U ?_;refine ε<|γ U<|δ ?_;have go:mq .eql (.one .slice) t .ns=some (.b false)->WC C aeA [(k0,t)] h n (fq [.t k2] Q):=by intro hv;refine φ<|ε<|γ U<|lE U U hv<|δ ?_;refine az U U<|ay ?_;refine ε<|jJ U <| λh1 n1 r i d=>γ U<|F0 U (κ.whole (len:=0) (by omega) i rfl) U (hs.ext d) (by omega) (by omega) (by omega) <| λj k l o3 m p=>γ U<|δ ?_;exact aj ⟨_,rfl,a j k l (d.trans m) o3 (p.imp id λh=>by rcases h with h | h<;>rw[h]<;>omega)⟩
 obtain⟨g1,q⟩:=id hs;rcases q with g | ⟨⟨b,o,c,g,_⟩,_⟩
 ·have hl:cs=[]:=kW.1 (by rw[g1,g.2]);rw[g.1];refine φ<|ε<|γ U<|lE U U U<|δ ?_;refine ax U U ?_;refine ε<|γ U<|δ ?_;exact aj ⟨_,rfl,a .ns h n (Ext.refl h n) (Or.inl ⟨by rw[hl,g.2];exact dB.ns h 39 2,Or.inl U⟩) (Or.inl U)⟩
 ·refine au (go ?_) (Θ.rf U);rcases g with g | g
  ·rw[g.1];rfl
  ·rw[g];rfl
def kU:List (S×V)->List V
 | []=>[]
 | p::l=>st p.1::p.2::kU l
def Dd:∀l:List (S×V),(kU l).length=l.length*2
 | []=>rfl
 | p::l=>by simp only[kU,eh,Dd l];omega
def UM{a:S}{m:V}:∀{l:List (S×V)} {i:Nat},i<l.length->cJ [st a,m] (kU l) (i*2)=some (kU (l.set i (a,m)))
 | [],i,h=>by simp at h
 | p::l,0,_=>by simp[kU,cJ,over]
 | p::l,i+1,h=>by rw[show(i+1)*2=i*2+1+1 by omega];simp only[kU,cJ,UM (show i<l.length by simpa using h),qe]
def UN:∀{l:List (S×V)} {i:Nat} (h:i<l.length),cw (kU l) (i*2) 2=some [st l[i].1,l[i].2]
 | [],i,h=>by simp at h
 | p::l,0,_=>by simp[kU,cw,mn,takeN]
 | p::l,i+1,h=>by have:=UN (l:=l) (i:=i) (by simpa using h);rw[show(i+1)*2=i*2+1+1 by omega];unfold cw at this ⊢;simp only[kU,mn,oV];exact this
def UO:∀(l:List (S×V)) (i:Nat),(kU l).take (i*2)=kU (l.take i)
 | [],i=>by simp[kU]
 | p::l,0=>rfl
 | p::l,i+1=>by rw[show(i+1)*2=i*2+2 by omega];simp only[kU,j7,UO l i]
def gz(z:Bi×V):S×V:=(z.1.1,z.2)
def UP:∀{l:List Bi} {ms:List V},ms.length=l.length->jS l ms=kU ((l.zip ms).map gz)
 | [],[],_=>rfl
 | [],_::_,h=>by simp at h
 | _::_,[],h=>by simp at h
 | x::l,m::ms,h=>by simp only[jS,List.zip_cons_cons,eY,kU,gz,UP (show ms.length=l.length by simpa using h)]
def UQ:∀(Z:List (Bi×V)),jS (Z.map Prod.fst) (Z.map Prod.snd)=kU (Z.map gz)
 | []=>rfl
 | z::Z=>by simp only[eY,jS,kU,UQ Z];rfl
def UR{p:Bi->Bool}:∀{l:List Bi} {ms:List V},ms.length=l.length->((l.zip ms).filter λz=>p z.1).map Prod.fst=l.filter p
 | [],[],_=>rfl
 | [],_::_,h=>by simp at h
 | _::_,[],h=>by simp at h
 | x::l,m::ms,h=>by have:=UR (p:=p) (show ms.length=l.length by simpa using h);simp only[List.zip_cons_cons,List.filter_cons];split<;>simp[this]
def uT(h0:Hf)(n0:K)(h:Hf)(n lo:K)(v:V)(l:List Bi):Prop:=∃ms:List V,∃hm:ms.length=l.length,κ h n 2 v l.length (jS l ms)/\(v=.ns\/lo.num<=v.blk.num)/\∀i (hi:i<l.length),bK h0 n0 (ms[i]'(by omega)) l[i].2
def uT.bi{h0:Hf}{n0 lo:K}{v:V}{l:List Bi}(a:uT h0 n0 h n lo v l)(e:Ext h0 n0 h n):fL h n v l:=by obtain⟨ms,hm,h1,_,h2⟩:=a;exact⟨ms,hm,h1,λi hi=>(h2 i hi).ext e⟩
def uT.cW{h0 h':Hf}{n0 lo n':K}{v:V}{l:List Bi}(a:uT h0 n0 h n lo v l)(e:v=.ns\/h' v.blk=h v.blk)(b:n.num<=n'.num):uT h0 n0 h' n' lo v l:=by obtain⟨ms,hm,h1,h2,c⟩:=a;exact⟨ms,hm,h1.iI e b,h2,c⟩
def uT.lt{h0:Hf}{n0 lo:K}{v:V}{l:List Bi}(a:uT h0 n0 h n lo v l):v=.ns\/lo.num<=v.blk.num/\v.blk.num<n.num:=by
 obtain⟨ms,hm,h1,h2,b⟩:=a;rcases h2 with g | g
 ·exact Or.inl g
 ·exact h1.dT.imp id λk=>⟨g,k⟩
def al9(Z:Cd C){v G:V}{l:List Bi}{ms:List V}{p:Bi->Bool}{h0 H:Hf}{n0 I lo:K}(fG:n0.num<=lo.num)(eA:Ext H I h0 n0)(hm:ms.length=l.length)(D:Ext h0 n0 h n)(J:Ow h n 39 2 v l.length (jS l ms))(hv:v=.ns\/lo.num<=v.blk.num)(ht:∀i (hi:i<l.length),bK H I (ms[i]'(by omega)) l[i].2)(hlen:l.length<1000000)
 (hf:∀x m h' n' {Q':V->Hf->K->Prop},x∈l->bK h' n' m x.2->Ext h0 n0 h' n'->(∀h2 w,Ext h' n' h2 w->Q' (.b (p x)) h2 w)->μ C G [.a [st x.1,m]] h' n' Q')
 (hQ:∀v' h' n',Ext h0 n0 h' n'->uT H I h' n' lo v' (l.filter λx=>!p x)->Q v' h' n'):μ C (.f 113 [] []) [v,G] h n Q:=by
 have hb:fL h n v l:=⟨ms,hm,J.sl,λi hi=>(ht i hi).ext (eA.trans D)⟩;refine μ.go Z.f113 U ?_;refine ε<|γ U<|δ ?_;refine ε<|γ U<|γ U<|ah U U<|UH Z.f196 hb hlen (λx m h2 w Q' M tm N hq=>hf x m h2 w M tm (D.trans N) hq) <| λr h1 n1 y O=>γ U<|δ ?_;refine φ<|ε<|γ U<|dD U U<|δ ?_;rcases O with ⟨rfl,hn⟩ | ⟨k,hk,rfl,Lu,pR⟩
 ·refine ax U (by simp) ?_;have:l.filter (λx=>!p x)=l:=by rw[List.filter_eq_self];intro x M;rw[hn x M];rfl
  refine ε<|γ U<|γ U<|δ (aj ⟨_,rfl,hQ v h1 n1 (D.trans y) (by rw[this];exact⟨ms,hm,J.sl.ext y,hv,ht⟩)⟩)
 refine az U (by simp)<|ay ?_;obtain⟨yx,A⟩:dB h 39 2 v l.length (jS l ms)/\(v=.ns\/v.blk.num<n.num):=by
  rcases J with g | ⟨b,_,g,_⟩
  ·exact g
  ·omega
 have P:v≠.ns:=λe=>by have:=yx.nil e;omega
 obtain⟨AU,fg⟩:=yx.su.resolve_left P;have ama:=hv.resolve_left P;have oP:n0.num<=v.blk.num:=by omega
 have yl:=A.resolve_left P;generalize qM:v.blk=b at*;subst AU;rw[UP hm]at fg;have hZ:(l.zip ms).length=l.length:=by simp;omega
 have e01:=D.trans y;have amb:h1 b=some (.c (kU ((l.zip ms).map gz)) 39 0):=(y.2 b yl).trans fg;refine φ<|ε<|γ U<|cj U U ⟨by omega,by omega⟩<|γ U<|δ ?_;have fin:∀(L:List (S×V)) (h':Hf) (n':K),L.length=l.length->L.take ((l.zip ms).filter λz=>!p z.1).length=((l.zip ms).filter λz=>!p z.1).map gz->Ext h0 n0 h' n'->b.num<n'.num->h' b=some (.c (kU L) 39 0)->WC C RE [(k0,.su b 0 l.length 2),(k5,.i .i64 (((l.zip ms).filter λz=>!p z.1).length:Nat))] h' n' (fq [.t k4] Q):=by
  intro L h' n' d q o u a';have hle:((l.zip ms).filter λz=>!p z.1).length<=l.length:=by have:=List.length_filter_le (λz:Bi×V=>!p z.1) (l.zip ms);omega
  have lC:∀m,(dS [V.s 0 0,V.ns] m).length=m*2:=λm=>uf _ _;refine ε<|γ U<|γ U<|al6 U U hle<|al8 U a' (by rw[lC,Dd,d];omega) U <| λh2 new R uN Ih b2=>δ ?_;have b2:bA b h' h2:=b2;have x2:Ext h0 n0 h2 n':=o.Ξ b2 oP;rw[Dd,d]at uN;have ow2:dB h2 39 2 (.su b 0 l.length 2) l.length new:=⟨uN,Or.inr ⟨by omega,b,rfl,R⟩⟩;refine ε<|γ U<|γ U<|Fk U (ow2.sl (n:=n') (Or.inr u)) U U (by omega) hle <| λv3 s3 p3=>γ U<|δ (aj ⟨_,rfl,hQ v3 h2 n' x2 ?_⟩);rw[eV,UO,q]at Ih;rw[←UR hm];refine⟨((l.zip ms).filter λz=>!p z.1).map Prod.snd,by simp,?_,?_,λi hi=>?_⟩
  ·rw[UQ,ji];rw[mY,Nat.zero_mul,ig,Ih]at s3;exact s3
  ·rw[p3.2.1];exact Or.inr ama
  ·simp only[List.getElem_map];have T:=bL (l:=(l.zip ms).filter λz=>!p z.1) (n:=i) (by simpa using hi);obtain⟨j,hj,hz2⟩:=fD (List.mem_filter.1 T).1;rw[←hz2,List.getElem_zip];exact ht j (by omega)
 have loop:∀(r j:Nat) (L:List (S×V)) (h':Hf) (n':K),l.length - j=r->j<=l.length->L.length=l.length->L.take (((l.zip ms).take j).filter λz=>!p z.1).length=(((l.zip ms).take j).filter λz=>!p z.1).map gz->L.drop j=((l.zip ms).map gz).drop j->Ext h0 n0 h' n'->b.num<n'.num->h' b=some (.c (kU L) 39 0)->WC C aez [(k0,.su b 0 l.length 2),(k1,G),(k5,.i .i64 ((((l.zip ms).take j).filter λz=>!p z.1).length:Nat)),(k6,iN j)] h' n' (blk 0 (sq C RE (fq [.t k4] Q))):=by
  intro r
  induction r with
  | zero=>
   intro j L h' n' O hj d q E o u a';have:j=l.length:=by omega
   subst this;rw[ot (Nat.le_of_eq hZ)]at q ⊢;have W:dB h' 39 2 (.su b 0 l.length 2) l.length (kU L):=⟨by rw[Dd,d],Or.inr ⟨by omega,b,rfl,a'⟩⟩;refine aF ?_;refine φ<|ε<|γ U<|γ U<|aJ U (W.sl (n:=n') (Or.inr u))<|aH U U<|δ ?_;exact az U (by simp)<|bG<|au (fin L h' n' d q o u a') (Θ.rf U)
  | succ r ih=>
   intro j L h' n' O hj d q E o u a';have A:j<l.length:=by omega
   have W:dB h' 39 2 (.su b 0 l.length 2) l.length (kU L):=⟨by rw[Dd,d],Or.inr ⟨by omega,b,rfl,a'⟩⟩;have X:=W.sl (n:=n') (Or.inr u);have hLj:L[j]'(by omega)=(l[j].1,ms[j]'(by omega)):=by have:=congrArg (λl=>l[0]?) E;simp only[vP,j6,List.getElem?_map]at this;rw[aX (by omega),aX (by omega)]at this;simp only[ox,kV,List.getElem_zip]at this;exact this
   have Zg:(l.zip ms).take (j+1)=(l.zip ms).take j++[(l[j],ms[j]'(by omega))]:=by rw[gm (by omega),List.getElem_zip]
   have hcj:(((l.zip ms).take j).filter λz=>!p z.1).length<=j:=eF (List.length_filter_le _ _) (by simp;omega);have tmj:=(ht j A).ext (eA.trans o);have aZ:aB [st l[j].1,ms[j]'(by omega)]=true:=by simp only[aB,tmj.one];rfl
   have NQ:cw (kU L) (0+j*2) 2=some [st l[j].1,ms[j]'(by omega)]:=by rw[eV,UN (by omega),hLj]
   refine aF ?_;refine φ<|ε<|γ U<|γ U<|aJ U X<|aH U U<|δ ?_;refine ax U (by simp;omega)<|ay ?_;refine φ<|aA<|ε<|γ U<|γ U<|aV U U X A<|ν U (bP a' NQ)<|bN <| λh2 w iw R N=>aR U U R (bS (l:=[.s 0 0,.ns]) U U aZ) <| λh3 a3 b3=>δ ?_;have b3:bA n' h2 h3:=b3;have F:Ext h' n' h3 w:=N.Ξ b3 (ξ _);have z4:=F.1;refine ε<|γ U<|ν U (bP a3 (kC rfl))<|ah U U<|hf l[j] _ _ _ (bL A) (tmj.ext F) (o.trans F) <| λY n4 e4=>cz U<|δ ?_;have x4:=F.trans e4;have z5:=x4.1;have a4:Y b=some (.c (kU L) 39 0):=(x4.2 b u).trans a';cases hp:p l[j] with
   | true=>
    have B:((l.zip ms).take (j+1)).filter (λz=>!p z.1)=((l.zip ms).take j).filter λz=>!p z.1:=by rw[Zg,List.filter_append];simp[hp]
    refine az U U<|ay ?_;refine aP<|γ U<|cj U U ⟨by omega,by omega⟩<|γ U<|δ ?_;refine au (ih (j+1) L Y n4 (by omega) (by omega) d (by rw[B];exact q) ?_ (o.trans x4) (by omega) a4) ⟨rfl,rfl,by rw[B];rfl,rfl,trivial⟩;rw[←List.drop_drop,←List.drop_drop,E]
   | false=>
    have B:((l.zip ms).take (j+1)).filter (λz=>!p z.1)=(((l.zip ms).take j).filter λz=>!p z.1)++[(l[j],ms[j]'(by omega))]:=by rw[Zg,List.filter_append];simp[hp]
    generalize hc:(((l.zip ms).take j).filter λz=>!p z.1).length=c at*;refine ax U U ?_;have cA:lT (kU L) 0 (0+c*2) 2 (.a [st l[j].1,ms[j]'(by omega)])=some (kU (L.set c (l[j].1,ms[j]'(by omega)))):=by rw[eV];simp only[lT,V.cells,eh,mW,aZ,Nat.ble,Bool.and_true,UM (show c<L.length by omega)];rfl
    refine ε<|γ U<|γ U<|ν U (bP ((e4.2 n' (by omega)).trans a3) (kC rfl))<|aV U U (X.ext x4) (by omega)<|aR U U a4 cA <| λh5 a5 b5=>δ ?_;have b5:bA b Y h5:=b5;refine aP<|γ U<|cj U U ⟨by omega,by omega⟩<|γ U<|δ ?_;refine aP<|γ U<|cj U U ⟨by omega,by omega⟩<|γ U<|δ ?_;refine au (ih (j+1) (L.set c (l[j].1,ms[j]'(by omega))) h5 n4 (by omega) (by omega) (by simpa using d) ?_ ?_ ((o.trans x4).Ξ b5 oP) (by omega) a5) ⟨rfl,rfl,by rw[B,jz,hc];rfl,rfl,trivial⟩
    ·rw[B,jz,hc,List.map_append];show(L.set c _).take (c+1)=_;rw[gm (by rw[j5];omega),xk,List.take_set_of_le (ξ _),q];rfl
    ·rw[List.drop_set_of_lt (by omega),←List.drop_drop,←List.drop_drop,E]
 have ek:((l.zip ms).take (k+1)).filter (λz=>!p z.1)=(l.zip ms).take k:=by
  rw[gm (by omega),List.getElem_zip,List.filter_append];have h1:((l.zip ms).take k).filter (λz=>!p z.1)=(l.zip ms).take k:=by
   rw[List.filter_eq_self];intro z T;obtain⟨j,hj,rfl⟩:=fD T;have hjk:j<k:=by simp at hj;omega
   rw[List.getElem_take,List.getElem_zip];have:=pR l[j] (by rw[List.mem_iff_getElem];exact⟨j,by simp;omega,by rw[List.getElem_take]⟩);rw[this];rfl
  rw[h1];simp[Lu]
 have ekl:(((l.zip ms).take (k+1)).filter λz=>!p z.1).length=k:=by rw[ek];simp;omega
 refine aA<|au (loop _ (k+1) ((l.zip ms).map gz) h1 n1 rfl (by omega) (by rw[ji,hZ]) ?_ rfl e01 (by have:=y.1;omega) amb) ⟨rfl,rfl,?_,rfl,trivial⟩
 ·rw[ekl,ek,List.map_take]
 ·rw[ekl];rfl
end
end Go.Ev.X
namespace Go.Ev.X
open Go Go.Ev
def taken(l:List Bi)(vs:List (S×S))(ks:List (List Nd))(s:S):Bool:=kM s l||decide (s∈vs.map Prod.fst)||wC s ks
def fresh(l:List Bi)(vs:List (S×S))(ks:List (List Nd)):Nat->S->S
 | 0,s=>s
 | f+1,s=>if taken l vs ks s=true then fresh l vs ks f (s++[39]) else s
def xh(F:Nat)(l:List Bi)(ks:List (List Nd))(s:List (S×S)×List Bi)(i:Nat):List (S×S)×List Bi:=
 match s.1[i]? with
 | some x=>if kM x.1 l=true then (s.1.set i (fresh l s.1 ks F (x.1++[39]),x.2),s.2++[(x.1,dJ (fresh l s.1 ks F (x.1++[39])) x.2)]) else s
 | none=>s
def rn(F:Nat)(l:List Bi)(ks:List (List Nd))(vs:List (S×S)):Nat->List (S×S)×List Bi
 | 0=>(vs,l)
 | i+1=>xh F l ks (rn F l ks vs i) i
def put(F:Nat):Nat->List Nd->List Bi->List Nd
 | 0,t,_=>t
 | f+1,t,l=>match t.getLast? with
  | none=>t
  | some n=>
   if n.op=3 then (eD n.name l).getD t
   else if n.op=17\/n.op=18 then
    cM { n with vars:=(rn F (cK t l) (parts t) n.vars n.vars.length).1} ((parts t).map λk=>put F f k (rn F (cK t l) (parts t) n.vars n.vars.length).2)
   else cM n ((parts t).map λk=>put F f k l)
def hY(N:Nat)(ts:List Nd):Prop:=∀x∈ts,x.name.length<=N/\∀v∈x.vars,v.1.length<=N
def hY.mono{N M:Nat}{ts:List Nd}(h:hY N ts)(e:N<=M):hY M ts:=λx a=>⟨eF (h x a).1 e,λv hv=>eF ((h x a).2 v hv) e⟩
def Gg{N:Nat}{ts:List Nd}(h:hY N ts):∀i,∀v∈mS ts i,v.1.length<=N
 | 0,v,hv=>by cases hv
 | i+1,v,hv=>by
  unfold mS at hv;split at hv
  ·rename_i x a;split at hv
   ·rcases eG.1 hv with g | g
    ·exact Gg h i v g
    ·rw[gF]at g;subst g;exact(h x (List.mem_of_getElem? a)).1
   ·exact Gg h i v hv
  ·exact Gg h i v hv
def Gh{N:Nat}{ts:List Nd}(h:hY N ts){s:S}(hs:N<s.length):fM s ts=false:=by unfold fM;rw[fB];intro g;obtain⟨v,hv,rfl⟩:=List.mem_map.1 g;have:=Gg h ts.length v hv;omega
def LL{N:Nat}{l:List Bi}{vs:List (S×S)}{ks:List (List Nd)}(h1:∀b∈l,hY N b.2)(h2:∀v∈vs,v.1.length<=N)(a:∀k∈ks,hY N k){s:S}(hs:N<s.length):taken l vs ks s=false:=by
 unfold taken;have c:kM s l=false:=by unfold kM;rw[List.any_eq_false];intro b hb;rw[Gh (h1 b hb) hs];decide
 have d:decide (s∈vs.map Prod.fst)=false:=by rw[fB];intro g;obtain⟨v,hv,rfl⟩:=List.mem_map.1 g;have:=h2 v hv;omega
 have e:wC s ks=false:=by unfold wC;rw[List.any_eq_false];intro k f;rw[Gh (a k f) hs];decide
 rw[c,d,e];rfl
def US{N:Nat}{l:List Bi}{vs:List (S×S)}{ks:List (List Nd)}(h1:∀b∈l,hY N b.2)(h2:∀v∈vs,v.1.length<=N)(a:∀k∈ks,hY N k):∀(f:Nat) (s:S),s.length<=N+1->(fresh l vs ks f s).length<=N+1
 | 0,s,h=>h
 | f+1,s,h=>by
  unfold fresh;split
  ·rename_i ht;refine US h1 h2 a f _ ?_;by_cases hs:s.length<=N
   ·simp;omega
   ·rw[LL h1 h2 a (by omega)]at ht;cases ht
  ·exact h
end Go.Ev.X
