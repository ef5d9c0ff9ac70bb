/- A part of the proof. -/
import Derived.Test.YtjflaalpkjchoaaGreatDoorX
import Derived.Test.YtjflaalpkjchoaaGreatDoorF
import Derived.Test.YtjflaalpkjchoaaGreatDoorY
set_option linter.all false
namespace Go.Ev.X
open Go Go.Ev
attribute [local irreducible] WC WO WD SO μ
section
variable {C:Nat->Option aE}{h:Hf}{n:K}{Q:V->Hf->K->Prop}
def Xl(h:Hf)(ts:List Nd)(m:List (V×V))(i:Nat):Prop:=i=0\/∃p,m[i - 1]?=some p/\(∃x,ts[i - 1]?=some x/\dB h 37 2 p.1 x.vars.length (fU x.vars))/\∀(j:Nat) q,j<i - 1->m[j]?=some q->dE p.1 q.1/\dE p.1 q.2
section
variable {h0:Hf}{n0:K}{t:V}{ts:List Nd}
def anu(hC:Cd C)(ht:bK h0 n0 t ts)(hb:Bd ts){Q1:Ex->Env->Hf->K->Prop}
 (hQ:∀vo m h n E',Ext h0 n0 h n->TO h n0 n vo ts m->dB h 35 5 vo ts.length (bJ ts m)->Xl h ts m ts.length->Θ [(k3,vo)] E'->Q1 .normal E' h n):
 ∀(r i:Nat) (vo:V) (m:List (V×V)) (h:Hf) (n:K),ts.length - i=r->i<=ts.length->TO h n0 n vo (ts.take i) m->Gr h0 n0 h n 35 5 vo i (bJ (ts.take i) m)->Xl h ts m i->WC C Rq [(k0,t),(k3,vo),(k4,iN i)] h n (blk 0 Q1):=by
 have hlen:=hb.len;intro r
 induction r with
 | zero=>
  intro i vo m h n v hi o u tM;have:i=ts.length:=by omega
  subst this;obtain⟨cs,hs⟩:=(ht.ext u.ext).sl;rw[fO]at o;refine aF ?_;refine φ<|ε<|γ U<|γ U<|aJ U hs<|aH U U<|δ ?_;exact az U (by simp)<|bG (hQ vo m h n _ u.ext o (by have:=u.own;rw[fO]at this;exact this) tM (Θ.rf U))
 | succ r ih=>
  intro i vo m h n v hi o u tM;have D:i<ts.length:=by omega
  have sk:=ht.ext u.ext;obtain⟨cs,hs⟩:=sk.sl;obtain⟨vv,kv,G⟩:=sk.node D;have aZ:=nO ts[i] (κ.one G.vars) (κ.one G.kids);have eB:=hb.jM i D;have om:=hb.vl i D;refine aF ?_;refine φ<|ε<|γ U<|γ U<|aJ U hs<|aH U U<|δ ?_;refine ax U (by simp<;>omega)<|ay ?_;refine φ<|aA<|ε<|γ U<|γ U<|aV U U hs D<|ν U G.all<|bN <| λh1 n1 dd a1 e1=>aR U U a1 (bS rfl rfl aZ) <| λh2 M b2=>δ ?_;have x2:Ext h n h2 n1:=e1.Ξ b2 (ξ _);have N:=G.vars.ext x2;have O:=G.kids.ext x2;have Yz:bc h2 false 1 (.p n (0+3))=some vv:=cH M rfl _;have P:∀{h' n'},Ext h2 n1 h' n'->bc h' false 1 (.p n (0+4))=some kv:=λe=>cH ((e.2 _ (by omega)).trans M) U _;have KD:=κ.below N (ξ _);have KE:∀{n':K},n1.num<=n'.num->bz n' kv=true:=λe=>κ.below O e;refine eT<|cI U<|aO U Yz KD (κ.dL N)<|ch U U<|Yy hC N (by omega) <| λd R S o3 s w=>cI U<|aO U (P s) (KE s.1) (κ.dL O)<|ch U U<|w47 hC (O.ext s) (by omega) <| λv5 T y o5 E z=>cI U<|fK U U ((E.2 _ (by have:=s.1;omega)).trans ((s.2 _ (by omega)).trans M)) (FV o3.cells o3.one) <| λh4 a4 b4=>cI U<|fK U U a4 (FW o5.cells o5.one) <| λA a6 b6=>df (⟨⟨al (by simp[Nat.testBit]),al (by simp[Nat.testBit]),al (by simp[Nat.testBit]),cT (P (Ext.refl _ _)) (P s),trivial⟩,⟨al (by simp[Nat.testBit]),al (by simp[Nat.testBit]),al (by simp[Nat.testBit]),al (by simp[Nat.testBit]),trivial⟩,trivial⟩) ?_;have s:Ext h2 n1 R S:=s;have E:Ext R S T y:=E;have W:bA n T h4:=b4;have X:bA n h4 A:=b6;have kh:=s.1;have pC:=E.1;have x6:Ext h n A y:=(((x2.trans s).trans E).Ξ W (ξ _)).Ξ X (ξ _);have KF:A n=some (.c (cB ts[i] d v5) 35 0):=a6;have o3:dB R 37 2 d ts[i].vars.length (fU ts[i].vars):=o3;have o5:dB T 3 1 v5 ts[i].kids.length (dX .i64 ts[i].kids):=o5;have Hc:dB A 37 2 d ts[i].vars.length (fU ts[i].vars):=(((o3.ext (w.imp id λh=>E.2 _ (by omega))).ext (w.imp id λh=>W _ (by omega))).ext (w.imp id λh=>X _ (by omega)));have Y:dB A 3 1 v5 ts[i].kids.length (dX .i64 ts[i].kids):=(o5.ext (z.imp id λh=>W _ (by omega))).ext (z.imp id λh=>X _ (by omega));have CJ:=nO ts[i] o3.one o5.one;have Z:=u.on x6;refine aP<|γ U<|ν U (bP KF (kC rfl))<|jJ (FX rfl CJ rfl) <| λh7 n7 sG a7 B=>uq U ((Z.on B).own) U (κ.whole (len:=1) (by omega) a7 rfl) (by omega) (by omega) (by omega) (by omega) CJ ((Z.on B).lt) <| λI F n8 o8 J yW L=>γ U<|δ ?_;have g8:=(Z.on B).app o8 J yW L;have YA:Ext h n h7 n7:=x6.trans B;have AW:m.length=i:=by rw[o.rows.len];simp;omega
  have mb:ts.take (i+1)=ts.take i++[ts[i]]:=gm D;have KG:bJ (ts.take i) m++cB ts[i] d v5=bJ (ts.take (i+1)) (m++[(d,v5)]):=by rw[mb,zR (by rw[AW];simp;omega)];rfl
  rw[KG]at g8;have sG:=B.1;have aiR:=u.ext.1;have aiS:n.num<n1.num:=by omega
  have Is:∀b:K,b.num<n.num->(vo=.ns\/b.num≠vo.blk.num)->F b=h b:=λb hb hv=>by rw[L b (by omega) hv,YA.2 b hb]
  have l3:d=.ns\/d.blk.num<S.num:=w.imp id And.right;have l5:v5=.ns\/v5.blk.num<y.num:=z.imp id And.right;have KH:d=.ns\/(vo=.ns\/d.blk.num≠vo.blk.num):=w.imp id λh=>u.lt.imp id λg=>by omega
  have KI:v5=.ns\/(vo=.ns\/v5.blk.num≠vo.blk.num):=z.imp id λh=>u.lt.imp id λg=>by omega
  have f3:d=.ns\/F d.blk=A d.blk:=by
   rcases l3 with l | l
   ·exact Or.inl l
   ·rcases KH with g | g
    ·exact Or.inl g
    ·exact Or.inr (by rw[L _ (by omega) g,B.2 _ (by omega)];rfl)
  have f5:v5=.ns\/F v5.blk=A v5.blk:=by
   rcases l5 with l | l
   ·exact Or.inl l
   ·rcases KI with g | g
    ·exact Or.inl g
    ·exact Or.inr (by rw[L _ (by omega) g,B.2 _ (by omega)];rfl)
  have KJ:v5=.ns\/n0.num<=v5.blk.num:=z.imp id λh=>by omega
  have KK:d=.ns\/n0.num<=d.blk.num:=w.imp id λh=>by omega
  have k8:I=.ns\/y.num<=I.blk.num:=Or.inr (by rw[J];omega);have KL:d=.ns\/d.blk.num<y.num:=l3.imp id λh=>by omega
  have g5:v5=.ns\/n.num<=v5.blk.num:=z.imp id λh=>by omega
  have g3:d=.ns\/n.num<=d.blk.num:=w.imp id λh=>by omega
  have ro:RO F n0 n8 I ts[i] (d,v5):=by
   refine⟨κ.iI (Hc.sl (n:=y) KL) f3 (by omega),κ.iI (Y.sl (n:=y) l5) f5 (by omega),?_,KJ,KK,dE.of l3 (z.imp id And.left),dE.of KL k8,dE.of l5 k8⟩;rcases Y.su with g | g
   ·exact Or.inl (kW.1 (Y.nil g))
   ·rcases f5 with f | f
    ·have:=g.1;rw[f]at this;cases this
    ·exact Or.inr ⟨g.1,by rw[f];exact g.2⟩
  have xl8:Xl F ts (m++[(d,v5)]) (i+1):=Or.inr ⟨(d,v5),by rw[Nat.add_sub_cancel,qc (by omega),AW];simp,⟨ts[i],by rw[Nat.add_sub_cancel];exact aX D,Hc.ext f3⟩,λj q hj H=>by rw[oT (by omega)]at H;obtain⟨hjm,rfl⟩:=cZ.1 H;have v:=o.rows.get j (by rw[←o.rows.len];exact hjm) hjm;exact⟨(dE.of (κ.dT v.b) g3).symm,(dE.of (κ.dT v.k) g3).symm⟩⟩
  refine aP<|γ U<|cj U U ⟨by omega,by omega⟩<|γ U<|δ ?_;refine au (ih (i+1) I (m++[(d,v5)]) F n8 (by omega) (by omega) ⟨?_,?_,?_,Or.inr (by rw[J];omega)⟩ g8 xl8) (Θ.rf U)
  ·have:=g8.sl;have el:(ts.take (i+1)).length=i+1:=by simp;omega
   rw[el];exact this
  ·rw[mb];exact dw.app (dw.mono (λx p a=>a.step Is (by omega) (by rw[J];omega)) o.rows) ⟨ro,trivial⟩
  ·rw[List.pairwise_append];refine⟨o.pw,List.pairwise_singleton _ _,?_⟩;intro p hp q H;rw[gF]at H;subst H;obtain⟨j,hj,rfl⟩:=fD hp;have v:=o.rows.get j (by rw[←o.rows.len];exact hj) hj;have b1:=κ.dT v.b;have b2:=κ.dT v.k;exact⟨dE.of b2 g5,dE.of b1 g5,dE.of b2 g3⟩
end
def w9h(a:Cd C){t:V}{ts:List Nd}(ht:bK h n t ts)(hb:Bd ts)(b:∀vo m h' n',Ext h n h' n'->TO h' n n' vo ts m->dB h' 35 5 vo ts.length (bJ ts m)->Xl h' ts m ts.length->Q vo h' n'):μ C (.f 9 [] []) [t] h n Q:=by refine μ.go a.f9 U ?_;refine ε<|γ U<|δ ?_;refine ε<|γ U<|δ ?_;refine φ<|ε<|γ U<|δ ?_;refine aA<|au (anu a ht hb ?_ _ 0 .ns [] h n rfl (by omega) ⟨by simp;exact κ.ns h n 5,trivial,List.Pairwise.nil,Or.inl U⟩ (by simpa[bJ]using Gr.ns (Ext.refl h n)) (Or.inl U)) (Θ.rf U);intro vo m h1 n1 E1 c d e g s1;refine dO s1 ?_;refine ε<|γ U<|γ U<|δ (aj ⟨_,rfl,b vo m h1 n1 c d e g⟩)
end
section
variable {C:Nat->Option aE}{h:Hf}{n:K}{Q:V->Hf->K->Prop}
def Dq(x:Nd):List (S×S):=x.vars++(if x.op=3 then [(x.name,x.sort)] else [])
structure Mi(M:List (S×V))(L:List (S×S)):Prop where
 ok:∀p∈L,oN p.1 M=some (st p.2)
 st:∀s v,oN s M=some v->∃a,v=X.st a
def Mi.nil:Mi [] []:=⟨λp h=>absurd h (by simp),λs v h=>by cases h⟩
def VY{a b:S}(h:st a=st b):a=b:=by injection h with h1 h2;exact Pf h1 h2
def Mi.add{M:List (S×V)}{L:List (S×S)}(a:Mi M L){p:S×S}(h:oN p.1 M=none\/oN p.1 M=some (X.st p.2)):Mi (pA p.1 (X.st p.2) M) (L++[p]):=by
 refine⟨λq b=>?_,λs v hv=>?_⟩
 ·rw[JP];rcases eG.1 b with b | b
  ·have:=a.ok q b;by_cases e:q.1=p.1
   ·rw[ab e];rw[e]at this;rcases h with h | h
    ·rw[this]at h;cases h
    ·rw[this]at h;exact h.symm
   ·rw[Γ e];exact this
  ·rw[gF]at b;subst b;simp
 ·rw[JP]at hv;split at hv
  ·injection hv with hv;exact⟨_,hv.symm⟩
  ·exact a.st s v hv
def Mi.so{M:List (S×V)}{ts:List Nd}(a:Mi M (ts.flatMap Dq)):∃s,So s ts:=by
 have hex:∀s:S,∃z:S,∀b,oN s M=some (X.st b)->b=z:=λs=>by
  by_cases h:∃b,oN s M=some (X.st b)
  ·obtain⟨b,hb⟩:=h;exact⟨b,λc d=>VY (by rw[hb]at d;injection d with d;exact d.symm)⟩
  ·exact⟨[],λb hb=>absurd ⟨b,hb⟩ h⟩
 obtain⟨f,hf⟩:=Classical.axiomOfChoice hex;refine⟨f,λx e=>⟨λg=>?_,λv hv=>?_⟩⟩
 ·exact hf _ _ (a.ok (x.name,x.sort) (List.mem_flatMap.2 ⟨x,e,by unfold Dq;rw[ab g];simp⟩))
 ·exact hf _ _ (a.ok v (List.mem_flatMap.2 ⟨x,e,by unfold Dq;simp[hv]⟩))
section
variable {h0:Hf}{n0:K}{t vb:V}{ts:List Nd}{len j:Nat}{l dn:List (S×S)}{Q1:Ex->Env->Hf->K->Prop}
def anw(hlen:l.length<1000000)
 (hR:∀h' n' E',Ext h0 n0 h' n'->lk E' k2=some (.b false)->Q1 .ret E' h' n')
 (z:∀h' n' E' es c M,Ext h0 n0 h' n'->n0.num<n'.num->h' n0=some (.mp es c)->lZ es c M->Mi M (dn++l)->Θ [(k3,.m n0),(lW,t),(pT,iN len),(vC,iN j)] E'->Q1 .normal E' h' n'):
 ∀(r i:Nat) (h:Hf) (n:K) (es:List (V×V×Nat)) (c:Nat) (M:List (S×V)),l.length - i=r->i<=l.length->Ext h0 n0 h n->n0.num<n.num->h n0=some (.mp es c)->lZ es c M->Mi M (dn++l.take i)->dV h n vb l->(vb=.ns\/n0.num<vb.blk.num)->WC C Ru [(k3,.m n0),(lW,t),(pT,iN len),(vC,iN j),(IP,vb),(Ye,iN l.length),(Nq,iN i)] h n (blk 2 Q1):=by
 intro r
 induction r with
 | zero=>
  intro i h n es c M A hi o q hm d f hv u;have:i=l.length:=by omega
  subst this;rw[fO]at f;refine aF ?_;refine ε<|aH U U<|δ ?_;exact φ<|az U (by simp)<|bG (z h n _ es c M o q hm d f (Θ.rf U))
 | succ r ih=>
  intro i h n es c M A hi o q hm d f hv u;have w:i<l.length:=by omega
  have B:aB [st l[i].1,st l[i].2]=true:=rfl;have D:l.take (i+1)=l.take i++[l[i]]:=gm w;refine aF ?_;refine ε<|aH U U<|δ ?_;refine φ<|ax U (by simp;omega)<|ay ?_;refine φ<|aA<|ε<|aV U U hv w<|ν U (hv.jG w)<|bN <| λh1 n1 R F G=>aR U U F (bS (l:=[.s 0 0,.s 0 0]) U U B) <| λh2 H b2=>δ ?_;have x2:Ext h n h2 n1:=G.Ξ b2 (ξ _);have k:Cl h2 n1 n [st l[i].1,st l[i].2] 37:=⟨by omega,H⟩;have x:h2 n0=some (.mp es c):=by rw[x2.2 _ q];exact hm
  have T:=x2.1;have next:oN l[i].1 M=none\/oN l[i].1 M=some (st l[i].2)->∀E,Θ [(k3,.m n0),(lW,t),(pT,iN len),(vC,iN j),(IP,vb),(Ye,iN l.length),(Nq,iN i),(k8,.p n 0)] E->WC C adY E h2 n1 (blk 3 (sq C adZ (sq C (.loop Jp) (blk 2 Q1)))):=by intro I E J;refine dO J ?_;refine aP<|γ U<|χ U<|ν U (k.ld U _)<|χ U<|ν U (k.ld U _)<|Ac U U U x d <| λy L c3 N O b3=>δ ?_;have P:Ext h0 n0 y n1:=(o.trans x2).Ξ b3 (ξ _);refine aP<|cj U U ⟨by omega,by omega⟩<|γ U<|δ ?_;refine au (ih (i+1) y n1 L c3 (pA l[i].1 (st l[i].2) M) (by omega) (by omega) P (by omega) N O ?_ (κ.Ξ (hv.ext x2) b3 (u.imp id λg=>by omega)) u) (Θ.rf U);rw[D,←ku];exact f.add I
  cases hf:oN l[i].1 M with
  | none=>
   refine φ<|ε<|γ U<|χ U<|ν U (k.ld U _)<|af4 U U x d hf<|γ U<|bU U U<|bU U U<|γ U<|γ U<|δ ?_;refine ε<|γ U<|γ U<|θ U (rfl)<|θ U (rfl)<|θ U (rfl)<|θ U (rfl)<|aW U (rfl) U<|δ ?_;exact az U U<|ay (next (.inl hf) _ (Θ.rf U))
  | some v=>
   obtain⟨a,rfl⟩:=f.st _ _ hf;refine φ<|ε<|γ U<|χ U<|ν U (k.ld U _)<|af3 U U x d hf<|γ U<|bU U U<|bU U U<|γ U<|γ U<|δ ?_;refine ε<|γ U<|γ U<|ζ U (rfl)<|γ U<|ζ U (rfl)<|χ U<|ζ U (rfl)<|ν U (k.ld U _)<|ζ U (rfl)<|qy U U<|bh U (rfl) U<|δ ?_;by_cases e:a=l[i].2
   ·subst e;exact az U (by simp)<|ay (next (.inr hf) _ (Θ.rf U))
   ·refine ax U (by simp[e]) ?_;refine ε<|γ U<|δ (aj (hR h2 n1 _ (o.trans x2) U))
def anx(R:Cd C)(ht:bK h0 n0 t ts)(hb:Bd ts)
 (D:∀r h' n',Ext h0 n0 h' n'->(r=true->∃s,So s ts)->Q (.b r) h' n'):
 ∀(r j:Nat) (h:Hf) (n:K) (es:List (V×V×Nat)) (c:Nat) (M:List (S×V)),ts.length - j=r->j<=ts.length->Ext h0 n0 h n->n0.num<n.num->h n0=some (.mp es c)->lZ es c M->Mi M ((ts.take j).flatMap Dq)->WC C Rr [(k3,.m n0),(lW,t),(pT,iN ts.length),(vC,iN j)] h n (blk 0 (sq C Rv (fq [.t k2] Q))):=by
 have hlen:=hb.len;intro r
 induction r with
 | zero=>
  intro j h n es c M T hj e F hm G f;have:j=ts.length:=by omega
  subst this;rw[fO]at f;refine aF ?_;refine ε<|aH U U<|δ ?_;refine φ<|az U (by simp)<|bG ?_;refine ε<|γ U<|δ (aj ⟨_,rfl,D true h n e λ_=>f.so⟩)
 | succ r ih=>
  intro j h n es c M T hj e F hm G f;have i:j<ts.length:=by omega
  have H:=ht.ext e;obtain⟨cs,hs⟩:=H.sl;obtain⟨vv,kv,k⟩:=H.node i;have W:=nO ts[j] (κ.one k.vars) (κ.one k.kids);have om:=hb.vl j i;have X:ts.take (j+1)=ts.take j++[ts[j]]:=gm i;refine aF ?_;refine ε<|aH U U<|δ ?_;refine φ<|ax U (by simp;omega)<|ay ?_;refine φ<|aA<|ε<|aV U U hs i<|ν U k.all<|bN <| λh1 n1 dd Y Z=>aR U U Y (bS rfl rfl W) <| λh2 a2 b2=>δ ?_;have x2:Ext h n h2 n1:=Z.Ξ b2 (ξ _);have c5:Cl h2 n1 n (cB ts[j] vv kv) 35:=⟨by omega,a2⟩;have z2:=x2.1;refine ε<|χ U<|ν U (c5.ld U _)<|ah U U<|Yy R (k.vars.ext x2) (by omega) <| λd w I o3 a o=>γ U<|δ ?_;have a:Ext h2 n1 w I:=a;have z3:=a.1;have o3:dB w 37 2 d ts[j].vars.length (fU ts[j].vars):=o3;have p:=c5.ext a;have J:w n0=some (.mp es c):=by rw[a.2 _ (by omega),x2.2 _ F];exact hm
  have x:=(e.trans x2).trans a;have inner:∀{l:List (S×S)} {vb:V} {h':Hf} {n':K} {E:Env},l=Dq ts[j]->dV h' n' vb l->Ext h0 n0 h' n'->n0.num<n'.num->h' n0=some (.mp es c)->(vb=.ns\/n0.num<vb.blk.num)->l.length<1000000->Θ [(k3,.m n0),(lW,t),(pT,iN ts.length),(vC,iN j),(k6,vb)] E->WC C Rs E h' n' (blk 1 (sq C ad0 (sq C (.loop Jo) (blk 0 (sq C Rv (fq [.t k2] Q)))))):=by
   intro l vb h' n' E hl hv x' pP yJ oP iF hE;refine dO hE ?_;refine ε<|γ U<|aJ U hv<|γ U<|δ ?_;refine aA<|au (anw (h0:=h0) (n0:=n0) (t:=t) (len:=ts.length) (j:=j) (l:=l) (dn:=(ts.take j).flatMap Dq) iF ?_ ?_ _ 0 h' n' es c M rfl (by omega) x' pP yJ G (by simpa using f) hv oP) (Θ.rf U)
   ·intro q y E' A B;exact⟨_,show kA [.t k2] E' q=some (.b false) by simp only[kA,qm,sW,B],D false q y A λh=>by cases h⟩
   ·intro q y E' Ds c4 M4 A mQ m4 Eo Ep B;refine dO B ?_;refine aP<|cj U U ⟨by omega,by omega⟩<|γ U<|δ ?_;refine au (ih (j+1) q y Ds c4 M4 (by omega) (by omega) A mQ m4 Eo ?_) (Θ.rf U);rw[X,List.flatMap_append];simp only[List.flatMap_cons,List.flatMap_nil,List.append_nil];rw[←hl];exact Ep
  by_cases u:ts[j].op=3
  ·refine φ<|ε<|χ U<|ν U (p.ld U _)<|dD U U<|δ ?_;refine ax U (by simp[u]) ?_;have L:d=.ns\/d.blk.num<I.num:=o.imp id And.right;have N:d=.ns\/n0.num<d.blk.num:=o.imp id λg=>by omega
   refine aP<|γ U<|χ U<|ν U (p.ld U _)<|χ U<|ν U (p.ld U _)<|px (Tf rfl rfl rfl rfl rfl rfl)<|jJ (UI rfl rfl) <| λh6 n6 jh a6 v=>uq U (o3.ext (L.imp id λg=>v.2 _ g)) U (κ.whole (len:=1) (z:=2) (by omega) a6 rfl) (by omega) (by omega) (by omega) (by omega) U (L.imp id λg=>by omega) <| λv7 h7 n7 o7 O sG P=>γ U<|δ ?_;have z6:=v.1;have z30:=x.1;have x7:Ext h0 n0 h7 n7:=⟨by omega,λb hb=>by rw[P b (by omega) (N.imp id λg=>by omega),v.2 b (by omega),x.2 b hb]⟩;refine inner (l:=ts[j].vars++[(ts[j].name,ts[j].sort)]) (by unfold Dq;rw[ab u]) ?_ x7 (by omega) (by rw[P n0 (by omega) (N.imp id λg=>by omega),v.2 n0 (by omega)];exact J) (Or.inr (by rw[O];omega)) (by simp;omega) (Θ.rf U);unfold dV;rw[jz,UB];exact o7.sl (Or.inr (by rw[O];omega))
  ·refine φ<|ε<|χ U<|ν U (p.ld U _)<|dD U U<|δ ?_;refine az U (by simp[u])<|ay ?_;exact inner (l:=ts[j].vars) (by unfold Dq;rw[Γ u];simp) (o3.sl (o.imp id And.right)) x (by omega) J (o.imp id λg=>by omega) (by omega) (Θ.rf U)
def w10(a:Cd C)(ht:bK h0 n0 t ts)(hb:Bd ts)(d:∀r h' n',Ext h0 n0 h' n'->(r=true->∃s,So s ts)->Q (.b r) h' n'):μ C (.f 10 [] []) [t] h0 n0 Q:=by refine μ.go a.f10 U ?_;refine ε<|γ U<|δ ?_;refine ε<|Sr <| λh1 n1 g e c=>γ U<|δ ?_;obtain⟨cs,hs⟩:=(ht.ext c).sl;refine φ<|ε<|γ U<|aJ U hs<|γ U<|δ ?_;exact aA<|au (anx a ht hb d _ 0 h1 n1 [] 0 [] rfl (by omega) c (by omega) e ⟨rfl,rfl⟩ (by simpa using Mi.nil)) (Θ.rf U)
end
end
section
variable {C:Nat->Option aE}{h:Hf}{n:K}{Q:V->Hf->K->Prop}
def pM(ts:List Nd):List S:=ts.flatMap λx=>x.name::x.vars.map Prod.fst
def uV(l:List Bi):List S:=l.flatMap λb=>b.1::pM b.2
def VZ(a b:List Nd):pM (a++b)=pM a++pM b:=by simp[pM]
def anA(a b:List Bi):uV (a++b)=uV a++uV b:=by simp[uV]
def Mo{s:S}{v:V}:∀{M:List (S×V)},(∃p∈pA s v M,p.1=s)/\∀p∈M,∃q∈pA s v M,q.1=p.1
 | []=>⟨⟨(s,v),by simp[pA],rfl⟩,λp h=>absurd h (by simp)⟩
 | p::M=>by
  obtain⟨⟨r,h1,h2⟩,b⟩:=Mo (s:=s) (v:=v) (M:=M);simp only[pA];by_cases e:p.1=s
  ·rw[ab e];refine⟨⟨(s,v),by simp,rfl⟩,λq a=>?_⟩;rcases cD.1 a with rfl | a
   ·exact⟨(s,v),by simp,e.symm⟩
   ·exact⟨q,by simp[a],rfl⟩
  ·rw[Γ e];refine⟨⟨r,by simp[h1],h2⟩,λq a=>?_⟩;rcases cD.1 a with rfl | a
   ·exact⟨q,by simp,rfl⟩
   ·obtain⟨r',g1,c⟩:=b q a;exact⟨r',by simp[g1],c⟩
def Dt{M:List (S×V)}{A:List S}{s:S}{v:V}(h:∀x∈A,∃p∈M,p.1=x):∀x∈A++[s],∃p∈pA s v M,p.1=x:=λx a=>by
 rcases eG.1 a with a | a
 ·obtain⟨p,hp,rfl⟩:=h x a;exact(Mo (s:=s) (v:=v)).2 p hp
 ·rw[gF]at a;subst a;exact(Mo (v:=v)).1
section
variable {h0:Hf}{bm:K}{t0 v1 v5 vb w:V}{ln j:Nat}{w2:V}{Oz j2:Nat}{l:List (S×S)}{A:List S}{Q1:Ex->Env->Hf->K->Prop}
def anB(hlen:l.length<1000000)
 (q:∀h' n' E' es c M,Ext h0 bm h' n'->bm.num<n'.num->h' bm=some (.mp es c)->lZ es c M->(∀s∈A++l.map Prod.fst,∃p∈M,p.1=s)->Θ [(k0,t0),(k1,v1),(k5,v5),(k6,.m bm),(IQ,w),(IU,iN ln),(IV,iN j)] E'->Q1 .normal E' h' n'):
 ∀(r i:Nat) (h:Hf) (n:K) (es:List (V×V×Nat)) (c:Nat) (M:List (S×V)),l.length - i=r->i<=l.length->Ext h0 bm h n->bm.num<n.num->h bm=some (.mp es c)->lZ es c M->(∀s∈A++(l.take i).map Prod.fst,∃p∈M,p.1=s)->dV h0 bm vb l->WC C adN [(k0,t0),(k1,v1),(k5,v5),(k6,.m bm),(IQ,w),(IU,iN ln),(IV,iN j),(k68,vb),(k69,iN l.length),(k70,iN i)] h n (blk 2 Q1):=by
 intro r
 induction r with
 | zero=>
  intro i h n es c M t hi a e hm f d hv;have:i=l.length:=by omega
  subst this;rw[fO]at d;refine aF ?_;refine ε<|aH U U<|δ ?_;exact φ<|az U (by simp)<|bG (q h n _ es c M a e hm f d (Θ.rf U))
 | succ r ih=>
  intro i h n es c M t hi a e hm f d hv;have g:i<l.length:=by omega
  have u:aB [st l[i].1,st l[i].2]=true:=rfl;have v:l.take (i+1)=l.take i++[l[i]]:=gm g;have k:=hv.ext a;refine aF ?_;refine ε<|aH U U<|δ ?_;refine φ<|ax U (by simp;omega)<|ay ?_;refine φ<|aA<|ε<|aV U U k g<|ν U (k.jG g)<|bN <| λh1 n1 I x y=>aR U U x (bS (l:=[.s 0 0,.s 0 0]) U U u) <| λh2 z b2=>δ ?_;have x2:Ext h n h2 n1:=y.Ξ b2 (ξ _);have B:Cl h2 n1 n [st l[i].1,st l[i].2] 37:=⟨by omega,z⟩;have D:h2 bm=some (.mp es c):=by rw[x2.2 _ e];exact hm
  have J:=x2.1;refine aP<|γ U<|χ U<|ν U (B.ld U _)<|Ac U U U D f <| λo E c3 F G b3=>δ ?_;have H:Ext h0 bm o n1:=(a.trans x2).Ξ b3 (ξ _);refine aP<|cj U U ⟨by omega,by omega⟩<|γ U<|δ ?_;refine au (ih (i+1) o n1 E c3 (pA l[i].1 (.b true) M) (by omega) (by omega) H (by omega) F G ?_ hv) (Θ.rf U);rw[v,List.map_append,←ku];exact Dt d
def anC(hlen:l.length<1000000)
 (q:∀h' n' E' es c M,Ext h0 bm h' n'->bm.num<n'.num->h' bm=some (.mp es c)->lZ es c M->(∀s∈A++l.map Prod.fst,∃p∈M,p.1=s)->Θ [(k0,t0),(k1,v1),(k5,v5),(k6,.m bm),(IW,w2),(IX,iN Oz),(IY,iN j2),(Yh,w),(Nu,iN ln),(Nw,iN j)] E'->Q1 .normal E' h' n'):
 ∀(r i:Nat) (h:Hf) (n:K) (es:List (V×V×Nat)) (c:Nat) (M:List (S×V)),l.length - i=r->i<=l.length->Ext h0 bm h n->bm.num<n.num->h bm=some (.mp es c)->lZ es c M->(∀s∈A++(l.take i).map Prod.fst,∃p∈M,p.1=s)->dV h0 bm vb l->WC C adO [(k0,t0),(k1,v1),(k5,v5),(k6,.m bm),(IW,w2),(IX,iN Oz),(IY,iN j2),(Yh,w),(Nu,iN ln),(Nw,iN j),(k99,vb),(ac4,iN l.length),(ac5,iN i)] h n (blk 8 Q1):=by
 intro r
 induction r with
 | zero=>
  intro i h n es c M t hi a e hm f d hv;have:i=l.length:=by omega
  subst this;rw[fO]at d;refine aF ?_;refine ε<|aH U U<|δ ?_;exact φ<|az U (by simp)<|bG (q h n _ es c M a e hm f d (Θ.rf U))
 | succ r ih=>
  intro i h n es c M t hi a e hm f d hv;have g:i<l.length:=by omega
  have u:aB [st l[i].1,st l[i].2]=true:=rfl;have v:l.take (i+1)=l.take i++[l[i]]:=gm g;have k:=hv.ext a;refine aF ?_;refine ε<|aH U U<|δ ?_;refine φ<|ax U (by simp;omega)<|ay ?_;refine φ<|aA<|ε<|aV U U k g<|ν U (k.jG g)<|bN <| λh1 n1 I x y=>aR U U x (bS (l:=[.s 0 0,.s 0 0]) U U u) <| λh2 z b2=>δ ?_;have x2:Ext h n h2 n1:=y.Ξ b2 (ξ _);have B:Cl h2 n1 n [st l[i].1,st l[i].2] 37:=⟨by omega,z⟩;have D:h2 bm=some (.mp es c):=by rw[x2.2 _ e];exact hm
  have J:=x2.1;refine aP<|γ U<|χ U<|ν U (B.ld U _)<|Ac U U U D f <| λo E c3 F G b3=>δ ?_;have H:Ext h0 bm o n1:=(a.trans x2).Ξ b3 (ξ _);refine aP<|cj U U ⟨by omega,by omega⟩<|γ U<|δ ?_;refine au (ih (i+1) o n1 E c3 (pA l[i].1 (.b true) M) (by omega) (by omega) H (by omega) F G ?_ hv) (Θ.rf U);rw[v,List.map_append,←ku];exact Dt d
def anD{ts:List Nd}{t:V}(ht:bK h0 bm t ts)(hb:Bd ts)
 (z:∀h' n' E' es c M,Ext h0 bm h' n'->bm.num<n'.num->h' bm=some (.mp es c)->lZ es c M->(∀s∈A++pM ts,∃p∈M,p.1=s)->Θ [(k0,t0),(k1,v1),(k5,v5),(k6,.m bm)] E'->Q1 .normal E' h' n'):
 ∀(r i:Nat) (h:Hf) (n:K) (es:List (V×V×Nat)) (c:Nat) (M:List (S×V)),ts.length - i=r->i<=ts.length->Ext h0 bm h n->bm.num<n.num->h bm=some (.mp es c)->lZ es c M->(∀s∈A++pM (ts.take i),∃p∈M,p.1=s)->WC C Q9 [(k0,t0),(k1,v1),(k5,v5),(k6,.m bm),(IQ,t),(IU,iN ts.length),(IV,iN i)] h n (blk 0 Q1):=by
 have hlen:=hb.len;intro r
 induction r with
 | zero=>
  intro i h n es c M B hi a f hm g d;have:i=ts.length:=by omega
  subst this;rw[fO]at d;refine aF ?_;refine ε<|aH U U<|δ ?_;exact φ<|az U (by simp)<|bG (z h n _ es c M a f hm g d (Θ.rf U))
 | succ r ih=>
  intro i h n es c M B hi a f hm g d;have e:i<ts.length:=by omega
  obtain⟨u,v,k⟩:=ht.node e;have D:=ht.ext a;obtain⟨cs,hs⟩:=D.sl;have o:=k.ext a;have E:=nO ts[i] (κ.one o.vars) (κ.one o.kids);have om:=hb.vl i e;have F:ts.take (i+1)=ts.take i++[ts[i]]:=gm e;refine aF ?_;refine ε<|aH U U<|δ ?_;refine φ<|ax U (by simp;omega)<|ay ?_;refine φ<|aA<|ε<|aV U U hs e<|ν U o.all<|bN <| λh1 n1 dd G H=>aR U U G (bS rfl rfl E) <| λh2 I b2=>δ ?_;have x2:Ext h n h2 n1:=H.Ξ b2 (ξ _);have x:Cl h2 n1 n (cB ts[i] u v) 35:=⟨by omega,I⟩;have J:h2 bm=some (.mp es c):=by rw[x2.2 _ f];exact hm
  have z2:=x2.1;refine ε<|γ U<|χ U<|ν U (x.ld U _)<|Ac U U U J g <| λq L c3 N O b3=>δ ?_;have y:Ext h0 bm q n1:=(a.trans x2).Ξ b3 (ξ _);have P:Cl q n1 n (cB ts[i] u v) 35:=x.Ξ b3 (by omega);refine ε<|χ U<|ν U (P.ld U _)<|aJ U (k.vars.ext y)<|γ U<|δ ?_;refine aA<|au (anB (h0:=h0) (bm:=bm) (t0:=t0) (v1:=v1) (v5:=v5) (l:=ts[i].vars) (A:=A++pM (ts.take i)++[ts[i].name]) (by omega) ?_ _ 0 q n1 L c3 (pA ts[i].name (.b true) M) U (by omega) y (by omega) N O (by simpa using Dt d) k.vars) (Θ.rf U);intro R T E' W c4 M4 X Y Z Eo Ep rY;refine dO rY ?_;refine aP<|cj U U ⟨by omega,by omega⟩<|γ U<|δ ?_;refine au (ih (i+1) R T W c4 M4 (by omega) (by omega) X Y Z Eo ?_) (Θ.rf U);rw[F,VZ];simpa[pM,ku]using Ep
def anE{ts:List Nd}{t:V}(ht:bK h0 bm t ts)(hb:Bd ts)
 (z:∀h' n' E' es c M,Ext h0 bm h' n'->bm.num<n'.num->h' bm=some (.mp es c)->lZ es c M->(∀s∈A++pM ts,∃p∈M,p.1=s)->Θ [(k0,t0),(k1,v1),(k5,v5),(k6,.m bm),(IW,w2),(IX,iN Oz),(IY,iN j2)] E'->Q1 .normal E' h' n'):
 ∀(r i:Nat) (h:Hf) (n:K) (es:List (V×V×Nat)) (c:Nat) (M:List (S×V)),ts.length - i=r->i<=ts.length->Ext h0 bm h n->bm.num<n.num->h bm=some (.mp es c)->lZ es c M->(∀s∈A++pM (ts.take i),∃p∈M,p.1=s)->WC C Re [(k0,t0),(k1,v1),(k5,v5),(k6,.m bm),(IW,w2),(IX,iN Oz),(IY,iN j2),(Yh,t),(Nu,iN ts.length),(Nw,iN i)] h n (blk 6 Q1):=by
 have hlen:=hb.len;intro r
 induction r with
 | zero=>
  intro i h n es c M B hi a f hm g d;have:i=ts.length:=by omega
  subst this;rw[fO]at d;refine aF ?_;refine ε<|aH U U<|δ ?_;exact φ<|az U (by simp)<|bG (z h n _ es c M a f hm g d (Θ.rf U))
 | succ r ih=>
  intro i h n es c M B hi a f hm g d;have e:i<ts.length:=by omega
  obtain⟨u,v,k⟩:=ht.node e;have D:=ht.ext a;obtain⟨cs,hs⟩:=D.sl;have o:=k.ext a;have E:=nO ts[i] (κ.one o.vars) (κ.one o.kids);have om:=hb.vl i e;have F:ts.take (i+1)=ts.take i++[ts[i]]:=gm e;refine aF ?_;refine ε<|aH U U<|δ ?_;refine φ<|ax U (by simp;omega)<|ay ?_;refine φ<|aA<|ε<|aV U U hs e<|ν U o.all<|bN <| λh1 n1 dd G H=>aR U U G (bS rfl rfl E) <| λh2 I b2=>δ ?_;have x2:Ext h n h2 n1:=H.Ξ b2 (ξ _);have x:Cl h2 n1 n (cB ts[i] u v) 35:=⟨by omega,I⟩;have J:h2 bm=some (.mp es c):=by rw[x2.2 _ f];exact hm
  have z2:=x2.1;refine ε<|γ U<|χ U<|ν U (x.ld U _)<|Ac U U U J g <| λq L c3 N O b3=>δ ?_;have y:Ext h0 bm q n1:=(a.trans x2).Ξ b3 (ξ _);have P:Cl q n1 n (cB ts[i] u v) 35:=x.Ξ b3 (by omega);refine ε<|χ U<|ν U (P.ld U _)<|aJ U (k.vars.ext y)<|γ U<|δ ?_;refine aA<|au (anC (h0:=h0) (bm:=bm) (t0:=t0) (v1:=v1) (v5:=v5) (l:=ts[i].vars) (A:=A++pM (ts.take i)++[ts[i].name]) (by omega) ?_ _ 0 q n1 L c3 (pA ts[i].name (.b true) M) U (by omega) y (by omega) N O (by simpa using Dt d) k.vars) (Θ.rf U);intro R T E' W c4 M4 X Y Z Eo Ep rY;refine dO rY ?_;refine aP<|cj U U ⟨by omega,by omega⟩<|γ U<|δ ?_;refine au (ih (i+1) R T W c4 M4 (by omega) (by omega) X Y Z Eo ?_) (Θ.rf U);rw[F,VZ];simpa[pM,ku]using Ep
def anF{lb:List Bi}(hl:fL h0 bm v1 lb)(hlen:lb.length<1000000)(hb:∀b∈lb,Bd b.2)
 (u:∀h' n' E' es c M,Ext h0 bm h' n'->bm.num<n'.num->h' bm=some (.mp es c)->lZ es c M->(∀s∈A++uV lb,∃p∈M,p.1=s)->Θ [(k0,t0),(k1,v1),(k5,v5),(k6,.m bm)] E'->Q1 .normal E' h' n'):
 ∀(r i:Nat) (h:Hf) (n:K) (es:List (V×V×Nat)) (c:Nat) (M:List (S×V)),lb.length - i=r->i<=lb.length->Ext h0 bm h n->bm.num<n.num->h bm=some (.mp es c)->lZ es c M->(∀s∈A++uV (lb.take i),∃p∈M,p.1=s)->WC C Rc [(k0,t0),(k1,v1),(k5,v5),(k6,.m bm),(IW,v1),(IX,iN lb.length),(IY,iN i)] h n (blk 4 Q1):=by
 intro r
 induction r with
 | zero=>
  intro i h n es c M v hi a f hm g d;have:i=lb.length:=by omega
  subst this;rw[fO]at d;refine aF ?_;refine ε<|aH U U<|δ ?_;exact φ<|az U (by simp)<|bG (u h n _ es c M a f hm g d (Θ.rf U))
 | succ r ih=>
  intro i h n es c M v hi a f hm g d;have e:i<lb.length:=by omega
  obtain⟨m0,x,k⟩:=hl.at e;have y:=hl.ext a;obtain⟨cs,hs⟩:=y.sl;have z:=(a.ld (hl.sl.choose_spec.xF (by omega)) true 2 _).trans x;have B:aB [st lb[i].1,m0]=true:=by simp only[aB,k.one];rfl
  have D:lb.take (i+1)=lb.take i++[lb[i]]:=gm e;refine aF ?_;refine ε<|aH U U<|δ ?_;refine φ<|ax U (by simp;omega)<|ay ?_;refine φ<|aA<|ε<|aV U U hs e<|ν U z<|bN <| λh1 n1 dd E F=>aR U U E (bS (l:=[.s 0 0,.ns]) U U B) <| λh2 G b2=>δ ?_;have b2:bA n h1 h2:=b2;have x2:Ext h n h2 n1:=F.Ξ b2 (ξ _);have q:Cl h2 n1 n [st lb[i].1,m0] 39:=⟨by omega,G⟩;have H:h2 bm=some (.mp es c):=by rw[x2.2 _ f];exact hm
  have z2:=x2.1;refine ε<|γ U<|χ U<|ν U (q.ld U _)<|Ac U U U H g <| λo I c3 J L b3=>δ ?_;have t:Ext h0 bm o n1:=(a.trans x2).Ξ b3 (ξ _);have N:Cl o n1 n [st lb[i].1,m0] 39:=q.Ξ b3 (by omega);obtain⟨cs3,O⟩:=(k.ext t).sl;refine ε<|χ U<|ν U (N.ld U _)<|aJ U O<|γ U<|δ ?_;refine aA<|au (anE (h0:=h0) (bm:=bm) (t0:=t0) (v1:=v1) (v5:=v5) (A:=A++uV (lb.take i)++[lb[i].1]) k (hb _ (bL e)) ?_ _ 0 o n1 I c3 (pA lb[i].1 (.b true) M) U (by omega) t (by omega) J L (by simpa[pM]using Dt d)) (Θ.rf U);intro P R E' T c4 M4 W X Y Z Ep rY;refine dO rY ?_;refine aP<|cj U U ⟨by omega,by omega⟩<|γ U<|δ ?_;refine au (ih (i+1) P R T c4 M4 (by omega) (by omega) W X Y Z ?_) (Θ.rf U);rw[D,anA];simpa[uV,ku]using Ep
end
end
section
variable {C:Nat->Option aE}{h:Hf}{n:K}{Q:V->Hf->K->Prop}
section
variable {ts us:List Nd}{l:List Bi}
def V2{a b:List Nd}(c:Bd a)(d:Bd b)(e:cX a=0)(f:cX b=0)(h:AE a b []){r:Bool}(g:r=rQ a b a.length (a.length - 1) (b.length - 1) []):r=true:=by rw[g,←ak6 c d e f];exact h
def V3{F:Nat}{f N M:Nat}{ts:List Nd}{l:List Bi}(p:PC f N M ts l):Bd (put F f ts l):=(De p).1
end
def V4(c:Cd C){t0 v1 v5:V}{ts us:List Nd}{l:List Bi}{F:Nat}(q:2000000<=F)(j:Gl h n)(G:bK h n t0 ts)(H:fL h n v1 l)(I:bK h n v5 us)(T:Tw ts us l)(hs:je ts=true)(f0:cX ts=0)(no:No ts)(hl:l.all sJ=true)(s:l.length<=4)
 (J:∀b∈l,b.1.length<=100/\No b.2)(L:∀h' n',Q (.b true) h' n'):WC C Rj [(k0,t0),(k1,v1),(k5,v5)] h n (fq [.t k4] Q):=by
 have d:=uR hs;have k:=T.bd;obtain⟨M,N,X⟩:=ano q T hs f0 no hl s J;have Y:∀b∈l,je b.2=true:=λb hb=>by rw[kX]at hl;have:=hl b hb;simp only[sJ,aD]at this;exact this.1
 have hb:∀b∈l,Bd b.2/\b.1.length<10000000:=λb hb=>⟨uR (Y b hb),by have:=(J b hb).1;omega⟩;refine ε<|γ U<|ah U U<|w9 c G d <| λva h1 n1 u v=>γ U<|ah U U<|w9 c (I.ext u) k <| λvb h2 n2 w ib=>ah U U<|w11 c d k ((j.ext u).ext w) (v.ext w) ib <| λh3 n3 r e Z he x dW=>γ U<|bU U U<|bU U U<|γ U<|γ U<|δ ?_;have f:e=0:=by rw[he,f0,T.fe];rfl
 have y:r=true:=V2 d k f0 T.fe T.ae (x f);subst f;subst y;have m:=(u.trans w).trans Z;refine φ<|ε<|γ U<|cz U<|γ U<|ζ U (rfl)<|γ U<|ζ U (rfl)<|fJ U U<|aW U (rfl) U<|δ ?_;refine az U (by simp)<|ay ?_;refine ε<|γ U<|ah U U<|w9 c (G.ext m) d <| λva h4 n4 z v=>γ U<|ah U U<|w13 c (H.ext (m.trans z)) (by omega) (λb A=>(hb b A).1) <| λvl h5 n5 B D=>ah U U<|w12 c q ((j.ext m).ext (z.trans B)) (v.ext B) D (by omega) d hb (λ_ E=>Gp hs hl s f0 E) <| λva h6 n6 e6 ra=>γ U<|bU U U<|bU U U<|γ U<|γ U<|δ ?_;have o:=m.trans ((z.trans B).trans e6);refine ε<|γ U<|γ U<|ah U U<|w13 c (H.ext o) (by omega) (λb A=>(hb b A).1) <| λvl h7 n7 p D=>ah U U<|w12 c q ((j.ext o).ext p) (I.ext (o.trans p)) D (by omega) k hb (λ_ E=>M E) <| λvb h8 n8 O P=>γ U<|bU U U<|bU U U<|γ U<|γ U<|δ ?_;have R:=ra.ext (p.trans O);by_cases a:sE F ts l=0
 case neg=>
  refine φ<|ε<|γ U<|fJ U U<|γ U<|θ U (by simp[a])<|θ U (by simp[a])<|bh U (by simp[a]) U<|δ ?_;refine ax U (by simp[a]) ?_;refine ε<|γ U<|γ U<|dD U U<|γ U<|δ (aj ⟨_,rfl,by rw[←N];simpa using L h8 n8⟩)
 have S:sE F us l=0:=by rw[←N];exact a
 obtain⟨g1,i,g3⟩:=X a;have ea:sV F ts l=put F ts.length ts l:=by unfold sV;rw[ab a]
 have eb:sV F us l=put F us.length us l:=by unfold sV;rw[ab S]
 have W:mT l l 0=0:=by
  obtain⟨e,he⟩:∃e,fm [cX ts,if decide ((100:Int)<(l.length:Nat))=true then 5 else 0]=e:=⟨_,rfl⟩
  unfold sE at a;rw[he]at a;by_cases g:e=0
  ·subst g;by_cases i:mT l l 0=0
   ·exact i
   ·simp[i]at a
  ·simp[g]at a
 rw[ea]at R;rw[eb]at P;have b1:Bd (put F ts.length ts l):=V3 (Gp hs hl s f0 W);have b2:Bd (put F us.length us l):=V3 (M W);rw[a,S];refine φ<|ε<|γ U<|fJ U U<|γ U<|ζ U (by simp)<|γ U<|ζ U (by simp)<|fJ U U<|aW U (by simp) U<|δ ?_;refine az U (by simp)<|ay ?_;refine ε<|γ U<|γ U<|ah U U<|w11 c b1 b2 ((j.ext o).ext (p.trans O)) R P <| λh9 n9 r e e9 he x dW=>γ U<|bU U U<|bU U U<|γ U<|γ U<|δ ?_;have f:e=0:=by rw[he,g1,i];rfl
 have y:r=true:=V2 b1 b2 g1 i g3 (x f);subst f;subst y;refine ε<|γ U<|γ U<|ζ U (rfl)<|γ U<|ζ U (rfl)<|dD U U<|bh U (rfl) U<|γ U<|δ (aj ⟨_,rfl,by simpa using L h9 n9⟩)
end
section
variable {C:Nat->Option aE}{h:Hf}{n:K}{Q:V->Hf->K->Prop}
def V5:∀{a b:List Nd} {m:List (V×V)},a.length=b.length->(∀(i:Nat) x y,a[i]?=some x->b[i]?=some y->x.op=y.op/\x.sort=y.sort/\x.name=y.name)->bJ a m=bJ b m
 | [],[],m,_,_=>rfl
 | [],_::_,_,h,_=>by simp at h
 | _::_,[],_,h,_=>by simp at h
 | x::a,y::b,[],_,_=>rfl
 | x::a,y::b,p::m,h,hs=>by obtain⟨c,d,e⟩:=hs 0 x y rfl rfl;have:=V5 (m:=m) (show a.length=b.length by simpa using h) λi u v f hv=>hs (i+1) u v (by simpa using f) (by simpa using hv);simp only[bJ,this,cB,c,d,e]
def V6{w:S}:∀{ts:List Nd} {m:List (V×V)} {i:Nat} (h:i<ts.length),m.length=ts.length->cJ [st w] (bJ ts m) (i*5+2)=some (bJ (ts.set i { ts[i] with name:=w}) m)
 | [],m,i,h,_=>by simp at h
 | x::ts,[],i,_,h=>by simp at h
 | x::ts,p::m,0,_,_=>by simp[bJ,cB,cJ,over]
 | x::ts,p::m,i+1,h,hm=>by rw[show(i+1)*5+2=i*5+2+1+1+1+1+1 by omega];simp only[bJ,cB,j8,List.nil_append,cJ,V6 (w:=w) (show i<ts.length by simpa using h) (by simpa using hm),qe,oV]
structure Cp(h:Hf)(n:K)(v:V)(B:K)(ts:List Nd)(m:List (V×V)):Prop where
 pos:0<ts.length
 eq:v=.su B 0 ts.length 5
 lt:B.num<n.num
 bk:h B=some (.c (bJ ts m) 35 0)
 len:m.length=ts.length
 row:∀(i:Nat) x p,ts[i]?=some x->m[i]?=some p->(dV h n p.1 x.vars/\fh h n .i64 p.2 x.kids)/\(p.1=.ns\/p.1.blk.num≠B.num)/\(p.2=.ns\/p.2.blk.num≠B.num)
def Cp.t{v:V}{B:K}{ts:List Nd}{m:List (V×V)}(a:Cp h n v B ts m):bK h n v ts:=by
 have o:dB h 35 5 v ts.length (bJ ts m):=⟨pj a.len,Or.inr ⟨a.pos,B,a.eq,a.bk⟩⟩;refine⟨m,a.len,o.sl (Or.inr (by rw[a.eq];exact a.lt)),λi hi=>?_⟩;have hm:i<m.length:=by rw[a.len];exact hi
 exact(a.row i _ _ (aX hi) (aX hm)).1
def Cp.ext{v:V}{B:K}{ts:List Nd}{m:List (V×V)}(a:Cp h n v B ts m){h':Hf}{n':K}(e:Ext h n h' n'):Cp h' n' v B ts m:=
 ⟨a.pos,a.eq,by have:=a.lt;have:=e.1;omega,by rw[e.2 _ a.lt];exact a.bk,a.len,λi x p b hp=>⟨⟨(a.row i x p b hp).1.1.ext e,(a.row i x p b hp).1.2.ext e⟩,(a.row i x p b hp).2⟩⟩
def Cp.name{v:V}{B:K}{ts:List Nd}{m:List (V×V)}(a:Cp h n v B ts m){i:Nat}(hi:i<ts.length){w:S}{h':Hf}(hb:h' B=some (.c (bJ (ts.set i { ts[i] with name:=w}) m) 35 0))(e:bA B h h'):Cp h' n v B (ts.set i { ts[i] with name:=w}) m:=by
 refine⟨by simpa using a.pos,by simpa using a.eq,a.lt,hb,by simpa using a.len,λj x p b hp=>?_⟩;obtain⟨y,g,k,l⟩:∃y,ts[j]?=some y/\x.vars=y.vars/\x.kids=y.kids:=by
  rw[List.getElem?_set]at b;split at b
  ·rename_i q;subst q;injection b with b;exact⟨ts[i],aX hi,by rw[←b],by rw[←b]⟩
  ·exact⟨x,b,rfl,rfl⟩
 obtain⟨⟨r1,r2⟩,d,f⟩:=a.row j y p g hp;exact⟨⟨by rw[k];exact κ.Ξ r1 e d,by rw[l];exact κ.Ξ r2 e f⟩,d,f⟩
structure Cr(h:Hf)(n:K)(B Bv:K)(ts:List Nd)(m:List (V×V))(o z:S):Prop where
 lt:Bv.num<n.num
 ne:Bv.num≠B.num
 bk:h Bv=some (.c [st o,st z] 37 0)
 root:∃kv,m[ts.length - 1]?=some (.su Bv 0 1 2,kv)
 cm:∀(i:Nat) p,m[i]?=some p->(i≠ts.length - 1->p.1=.ns\/p.1.blk.num≠Bv.num)/\(p.2=.ns\/p.2.blk.num≠Bv.num)
def Cr.ext{B Bv:K}{ts:List Nd}{m:List (V×V)}{o z:S}(a:Cr h n B Bv ts m o z){h':Hf}{n':K}(e:Ext h n h' n'):Cr h' n' B Bv ts m o z:=
 ⟨by have:=a.lt;have:=e.1;omega,a.ne,by rw[e.2 _ a.lt];exact a.bk,a.root,a.cm⟩
def Cp.var{v:V}{B Bv:K}{ts:List Nd}{m:List (V×V)}{o z w:S}{x:Nd}(a:Cp h n v B ts m)(r:Cr h n B Bv ts m o z)(l:ts[ts.length - 1]?=some x){h':Hf}(hb:h' Bv=some (.c [st w,st z] 37 0))(e:bA Bv h h'):
 Cp h' n v B (ts.set (ts.length - 1) { x with vars:=[(w,z)]}) m:=by
 have G:=a.pos;have A:ts.length - 1<ts.length:=by omega
 have H:ts[ts.length - 1]=x:=by rw[aX A]at l;injection l
 refine⟨by simpa using a.pos,by simpa using a.eq,a.lt,?_,by simpa using a.len,λj y p f hp=>?_⟩
 ·rw[e _ (Ne.symm r.ne),a.bk,V5 (a:=ts) (b:=ts.set (ts.length - 1) { x with vars:=[(w,z)]}) (by simp) λi u I g d=>?_];rw[List.getElem?_set]at d;split at d
  ·rename_i k;subst k;injection d with d;rw[l]at g;injection g with g;subst g;subst d;exact⟨rfl,rfl,rfl⟩
  ·rw[g]at d;injection d with d;subst d;exact⟨rfl,rfl,rfl⟩
 ·obtain⟨D,t⟩:=r.cm j p hp;rw[List.getElem?_set]at f;split at f
  ·rename_i k;subst k;injection f with f;obtain⟨⟨r1,r2⟩,q,s⟩:=a.row _ x p l hp;obtain⟨kv,E⟩:=r.root;rw[E]at hp;injection hp with hp;subst hp;subst f;refine⟨⟨?_,κ.Ξ r2 e t⟩,q,s⟩;have F:dB h' 37 2 (.su Bv 0 1 2) 1 [st w,st z]:=⟨rfl,Or.inr ⟨by omega,Bv,rfl,hb⟩⟩;exact F.sl (Or.inr r.lt)
  ·rename_i k;obtain⟨⟨r1,r2⟩,q,s⟩:=a.row j y p f hp;exact⟨⟨κ.Ξ r1 e (D λe=>k e.symm),κ.Ξ r2 e t⟩,q,s⟩
def Cp.of{lo:K}{v:V}{ts:List Nd}{m:List (V×V)}(hp:0<ts.length)(a:TO h lo n v ts m)(o:dB h 35 5 v ts.length (bJ ts m)):Cp h n v v.blk ts m:=by
 have e:v=.su v.blk 0 ts.length 5/\h v.blk=some (.c (bJ ts m) 35 0):=by
  rcases o.2 with g | ⟨_,b,g1,d⟩
  ·omega
  ·subst g1;exact⟨rfl,d⟩
 have f:v.blk.num<n.num:=by
  rcases a.sl.dT with g | g
  ·rw[e.1]at g;cases g
  ·exact g
 refine⟨hp,e.1,f,e.2,a.rows.len,λi x p j l=>?_⟩;obtain⟨h1,rfl⟩:=cZ.1 j;obtain⟨h2,rfl⟩:=cZ.1 l;have r:=a.rows.get i h1 h2;refine⟨⟨r.b,r.k⟩,?_,?_⟩
 ·rcases r.vt with g | g | g
  ·exact .inl g
  ·rw[e.1]at g;cases g
  ·exact .inr g
 ·rcases r.kt with g | g | g
  ·exact .inl g
  ·rw[e.1]at g;cases g
  ·exact .inr g
def Cr.of{lo:K}{v:V}{ts:List Nd}{m:List (V×V)}{o z:S}{x:Nd}(a:TO h lo n v ts m)(j:dB h 35 5 v ts.length (bJ ts m))(k:Xl h ts m ts.length)(c:ts[ts.length - 1]?=some x)(hv:x.vars=[(o,z)]):∃Bv,Cr h n v.blk Bv ts m o z:=by
 have hp:0<ts.length:=by have:=(cZ.1 c).1;omega
 have cp:=Cp.of hp a j;rcases k with g | ⟨p,h1,⟨y,h2,e⟩,f⟩
 ·omega
 ·rw[c]at h2;injection h2 with h2;subst h2;rw[hv]at e;obtain⟨D,l⟩:=p;rcases e.2 with g | ⟨_,Bv,g1,r⟩
  ·have:=g.2;simp at this
  ·simp only at g1;subst g1;obtain⟨⟨r1,r2⟩,s,E⟩:=cp.row _ x _ c h1;have t:Bv.num<n.num:=by
    rcases κ.dT r1 with g | g
    ·cases g
    ·exact g
   obtain⟨u,w⟩:=cZ.1 h1;have A:=a.rows.get (ts.length - 1) (by omega) u;refine⟨Bv,t,?_,r,⟨l,h1⟩,λi q b=>⟨λhi=>?_,?_⟩⟩
   ·rcases s with g | g
    ·cases g
    ·exact g
   ·have d:i<ts.length - 1:=by have:=(cZ.1 b).1;rw[cp.len]at this;omega
    rcases(f i q d b).1 with g | g | g
    ·cases g
    ·exact .inl g
    ·exact .inr (Ne.symm g)
   ·by_cases hi:i=ts.length - 1
    ·subst hi;rw[h1]at b;injection b with b;subst b;have:=A.vk;rw[w]at this;rcases this with g | g | g
     ·cases g
     ·exact .inl g
     ·exact .inr (Ne.symm g)
    ·have d:i<ts.length - 1:=by have:=(cZ.1 b).1;rw[cp.len]at this;omega
     rcases(f i q d b).2 with g | g | g
     ·cases g
     ·exact .inl g
     ·exact .inr (Ne.symm g)
section
variable {t0 v1:V}{o:S}{B:K}{m:List (V×V)}{ts:List Nd}{h0:Hf}{n0:K}{Q1:Ex->Env->Hf->K->Prop}
def kN(o:S)(ts:List Nd)(i:Nat):List Nd:=(ts.take i).map (eU o cm)++ts.drop i
def anJ(i:Nat):(kN o ts i).length=ts.length:=by simp[kN];omega
def anK{i:Nat}(hi:i<ts.length):(kN o ts i)[i]?=some ts[i]:=by unfold kN;rw[qc (by simp;omega)];simp only[ji,ov,qf (fC hi),kY];rw[vP];simp[hi]
def V7{i:Nat}(hi:i<ts.length):kN o ts (i+1)=(kN o ts i).set i (eU o cm ts[i]):=by unfold kN;rw[gm hi,List.map_append,List.set_append_right _ _ (by simp;omega)];simp only[ji,ov,qf (fC hi),kY];have e:=gL hi;rw[e];simp only[List.set_cons_zero,ku,eY,List.map_nil,j8,List.nil_append]
def anL(hlen:ts.length<1000000)(y:0<ts.length)(hB:n0.num<=B.num)
 (q:∀h' n' E',Ext h0 n0 h' n'->Cp h' n' (.su B 0 ts.length 5) B (ts.map (eU o cm)) m->Θ [(k0,t0),(k1,v1),(k5,.su B 0 ts.length 5)] E'->Q1 .normal E' h' n'):
 ∀(r i:Nat) (h:Hf) (n:K),ts.length - i=r->i<=ts.length->Ext h0 n0 h n->Cp h n (.su B 0 ts.length 5) B (kN o ts i) m->WC C Rh [(k0,t0),(k1,v1),(k5,.su B 0 ts.length 5),(sy,st o),(QQ,iN ts.length),(I5,iN i)] h n (blk 16 Q1):=by
 intro r
 induction r with
 | zero=>
  intro i h n s hi d cp;have:i=ts.length:=by omega
  subst this;refine aF ?_;refine ε<|aH U U<|δ ?_;refine φ<|az U (by simp)<|bG (q h n _ d ?_ (Θ.rf U));have:kN o ts ts.length=ts.map (eU o cm):=by simp[kN]
  rw[←this];exact cp
 | succ r ih=>
  intro i h n s hi d cp;have b:i<ts.length:=by omega
  have hl:=anJ (o:=o) (ts:=ts) i;have f:i<(kN o ts i).length:=by omega
  have g:(kN o ts i)[i]=ts[i]:=by have:=anK (o:=o) b;rw[aX f]at this;injection this
  obtain⟨vv,kv,k⟩:=cp.t.node f;obtain⟨cs,hs⟩:=cp.t.sl;rw[hl]at hs;have op:bc h false 1 (.p B (0+i*5+0))=some (.i .i64 ts[i].op):=oF k.all (by rw[g];rfl);have l:bc h false 1 (.p B (0+i*5+2))=some (st ts[i].name):=oF k.all (by rw[g];rfl);refine aF ?_;refine ε<|aH U U<|δ ?_;refine φ<|ax U (by simp;omega)<|ay ?_;refine φ<|aA<|ε<|γ U<|γ U<|δ ?_;have same:∀E,eU o cm ts[i]=ts[i]->Θ [(k0,t0),(k1,v1),(k5,.su B 0 ts.length 5),(sy,st o),(QQ,iN ts.length),(I5,iN i)] E->WC C adQ E h n (sq C (.loop Ri) (blk 16 Q1)):=by intro E he u;refine dO u ?_;refine aP<|cj U U ⟨by omega,by omega⟩<|γ U<|δ ?_;refine au (ih (i+1) h n (by omega) (by omega) d ?_) (Θ.rf U);rw[V7 b,he,←g,List.set_getElem_self];exact cp
  by_cases a:ts[i].op=3
  case neg=>
   refine ε<|γ U<|γ U<|aV U U hs b<|χ U<|ν U op<|dD U U<|γ U<|θ U (by simp[a])<|θ U (by simp[a])<|θ U (by simp[a])<|θ U (by simp[a])<|θ U (by simp[a])<|θ U (by simp[a])<|θ U (by simp[a])<|aW U (by simp[a]) U<|δ ?_;exact az U (by simp)<|ay (same _ (by unfold eU;rw[Γ λe=>a e.1]) (Θ.rf U))
  by_cases iE:ts[i].name=o
  case neg=>
   refine ε<|γ U<|γ U<|aV U U hs b<|χ U<|ν U op<|dD U U<|γ U<|ζ U (by simp[a])<|γ U<|ζ U (by simp[a])<|γ U<|ζ U (by simp[a])<|aV U U hs b<|ζ U (by simp[a])<|χ U<|ζ U (by simp[a])<|ν U l<|ζ U (by simp[a])<|γ U<|ζ U (by simp[a])<|iS U U<|bh U (by simp[a]) U<|δ ?_;exact az U (by simp[iE])<|ay (same _ (by unfold eU;rw[Γ λe=>iE e.2]) (Θ.rf U))
  refine ε<|γ U<|γ U<|aV U U hs b<|χ U<|ν U op<|dD U U<|γ U<|ζ U (by simp[a])<|γ U<|ζ U (by simp[a])<|γ U<|ζ U (by simp[a])<|aV U U hs b<|ζ U (by simp[a])<|χ U<|ζ U (by simp[a])<|ν U l<|ζ U (by simp[a])<|γ U<|ζ U (by simp[a])<|iS U U<|bh U (by simp[a]) U<|δ ?_;refine ax U (by simp[iE]) ?_;have v:=cp.bk;refine aP<|γ U<|γ U<|aV U U hs b<|χ U<|aR U U v (mB rfl rfl (by show cJ [st cm] _ (0+i*5+2)=_;rw[eV];exact V6 (w:=cm) f cp.len)) <| λh2 j b2=>δ ?_;have b2:bA B h h2:=b2;have j:h2 B=some (.c (bJ ((kN o ts i).set i { (kN o ts i)[i] with name:=cm}) m) 35 0):=j;have x:=cp.name f j b2;refine aP<|cj U U ⟨by omega,by omega⟩<|γ U<|δ ?_;refine au (ih (i+1) h2 n (by omega) (by omega) (d.Ξ b2 hB) ?_) (Θ.rf U);rw[V7 b];have:eU o cm ts[i]={ (kN o ts i)[i] with name:=cm}:=by rw[g];unfold eU;rw[ab ⟨a,iE⟩]
  rw[this];exact x
end
end
section
variable {C:Nat->Option aE}{h:Hf}{n:K}{Q:V->Hf->K->Prop}
section
variable {t0 v1 v5 pr vb w:V}{o:S}{ln j:Nat}{l:List (S×S)}{ts:List Nd}{h0:Hf}{n0:K}{Q1:Ex->Env->Hf->K->Prop}
def anN(hlen:l.length<1000000)
 (hR:∀h' n' E',Ext h0 n0 h' n'->lk E' k4=some (.b true)->Q1 .ret E' h' n')
 (k:∀h' n' E',Ext h0 n0 h' n'->(∀v∈l,v.1≠o)->Θ [(k0,t0),(k1,v1),(k5,v5),(vD,pr),(sy,st o),(IZ,w),(I3,iN ln),(I4,iN j)] E'->Q1 .normal E' h' n'):
 ∀(r i:Nat) (h:Hf) (n:K),l.length - i=r->i<=l.length->Ext h0 n0 h n->(∀v∈l.take i,v.1≠o)->dV h n vb l->WC C adP [(k0,t0),(k1,v1),(k5,v5),(vD,pr),(sy,st o),(IZ,w),(I3,iN ln),(I4,iN j),(adh,vb),(adi,iN l.length),(adj,iN i)] h n (blk 14 Q1):=by
 intro r
 induction r with
 | zero=>
  intro i h n m hi a c hv;have:i=l.length:=by omega
  subst this;rw[fO]at c;refine aF ?_;refine ε<|aH U U<|δ ?_;exact φ<|az U (by simp)<|bG (k h n _ a c (Θ.rf U))
 | succ r ih=>
  intro i h n m hi a c hv;have d:i<l.length:=by omega
  have p:aB [st l[i].1,st l[i].2]=true:=rfl;have q:l.take (i+1)=l.take i++[l[i]]:=gm d;refine aF ?_;refine ε<|aH U U<|δ ?_;refine φ<|ax U (by simp;omega)<|ay ?_;refine φ<|aA<|ε<|aV U U hv d<|ν U (hv.jG d)<|bN <| λh1 n1 z t u=>aR U U t (bS (l:=[.s 0 0,.s 0 0]) U U p) <| λh2 x b2=>δ ?_;have x2:Ext h n h2 n1:=u.Ξ b2 (ξ _);have y:Cl h2 n1 n [st l[i].1,st l[i].2] 37:=⟨by omega,x⟩;refine ε<|χ U<|ν U (y.ld U _)<|γ U<|iS U U<|δ ?_;by_cases e:l[i].1=o
  ·refine ax U (by simp[e]) ?_;refine ε<|γ U<|δ (aj (hR h2 n1 _ (a.trans x2) U))
  ·refine az U (by simp[e])<|ay ?_;refine aP<|cj U U ⟨by omega,by omega⟩<|γ U<|δ ?_;refine au (ih (i+1) h2 n1 (by omega) (by omega) (a.trans x2) ?_ (hv.ext x2)) (Θ.rf U);intro v f;rw[q]at f;rcases eG.1 f with g | g
   ·exact c v g
   ·rw[gF]at g;subst g;exact e
def anO(hb:Bd ts)(m:bK h0 n0 w ts)
 (hR:∀h' n' E',Ext h0 n0 h' n'->lk E' k4=some (.b true)->Q1 .ret E' h' n')
 (q:∀h' n' E',Ext h0 n0 h' n'->(∀y∈ts,∀v∈y.vars,v.1≠o)->Θ [(k0,t0),(k1,v1),(k5,v5),(vD,pr),(sy,st o)] E'->Q1 .normal E' h' n'):
 ∀(r i:Nat) (h:Hf) (n:K),ts.length - i=r->i<=ts.length->Ext h0 n0 h n->(∀y∈ts.take i,∀v∈y.vars,v.1≠o)->WC C Rg [(k0,t0),(k1,v1),(k5,v5),(vD,pr),(sy,st o),(IZ,w),(I3,iN ts.length),(I4,iN i)] h n (blk 12 Q1):=by
 have hlen:=hb.len;intro r
 induction r with
 | zero=>
  intro i h n s hi a d;have ht:=m.ext a;have:i=ts.length:=by omega
  subst this;rw[fO]at d;refine aF ?_;refine ε<|aH U U<|δ ?_;exact φ<|az U (by simp)<|bG (q h n _ a d (Θ.rf U))
 | succ r ih=>
  intro i h n s hi a d;have ht:=m.ext a;have e:i<ts.length:=by omega
  obtain⟨cs,hs⟩:=ht.sl;obtain⟨vv,kv,c⟩:=ht.node e;have t:=nO ts[i] (κ.one c.vars) (κ.one c.kids);have D:=hb.vl i e;have u:ts.take (i+1)=ts.take i++[ts[i]]:=gm e;refine aF ?_;refine ε<|aH U U<|δ ?_;refine φ<|ax U (by simp;omega)<|ay ?_;refine φ<|aA<|ε<|aV U U hs e<|ν U c.all<|bN <| λh1 n1 E x z=>aR U U x (bS rfl rfl t) <| λh2 A b2=>δ ?_;have x2:Ext h n h2 n1:=z.Ξ b2 (ξ _);have c5:Cl h2 n1 n (cB ts[i] vv kv) 35:=⟨by omega,A⟩;refine ε<|χ U<|ν U (c5.ld U _)<|aJ U (c.vars.ext x2)<|γ U<|δ ?_;refine aA<|au (anN (h0:=h0) (n0:=n0) (t0:=t0) (v1:=v1) (v5:=v5) (pr:=pr) (w:=w) (o:=o) (ln:=ts.length) (j:=i) (l:=ts[i].vars) (by omega) ?_ ?_ _ 0 h2 n1 rfl (by omega) (a.trans x2) (by intro v hv;simp at hv) (c.vars.ext x2)) (Θ.rf U)
  ·intro h' n' E' f k;exact hR h' n' E' f k
  ·intro h' n' E' f B k;refine dO k ?_;refine aP<|cj U U ⟨by omega,by omega⟩<|γ U<|δ ?_;refine au (ih (i+1) h' n' (by omega) (by omega) f ?_) (Θ.rf U);intro y p;rw[u]at p;rcases eG.1 p with g | g
   ·exact d y g
   ·rw[gF]at g;subst g;exact B
end
def Cp.node{v:V}{B:K}{ts:List Nd}{m:List (V×V)}(a:Cp h n v B ts m){i:Nat}{x:Nd}{p:V×V}(b:ts[i]?=some x)(hp:m[i]?=some p):bc h true 5 (.p B (0+i*5))=some (.a (cB x p.1 p.2)):=by
 obtain⟨h1,rfl⟩:=cZ.1 b;obtain⟨h2,rfl⟩:=cZ.1 hp;have o:dB h 35 5 v ts.length (bJ ts m):=⟨pj a.len,Or.inr ⟨a.pos,B,a.eq,a.bk⟩⟩;have s:=o.sl (n:=n) (Or.inr (by rw[a.eq];exact a.lt));have:=s.jG (i:=i*5) (sz:=5) (by omega) (by omega);rw[we a.len h1]at this;have c:v.blk=B:=by rw[a.eq];rfl
 have d:v.off=0:=by rw[a.eq];rfl
 rw[c,d]at this;exact this
def Cp.take{v v':V}{B:K}{ts:List Nd}{m:List (V×V)}(a:Cp h n v B ts m){k:Nat}(c:k<=ts.length)(s:κ h n 5 v' (k - 0) (((bJ ts m).drop (0*5)).take ((k - 0)*5))):bK h n v' (ts.take k):=by
 refine⟨m.take k,by simp[a.len],?_,λi hi=>?_⟩
 ·have e:(ts.take k).length=k:=by simp;omega
  rw[e];simp only[mY,Nat.zero_mul,ig]at s;rw[FY _ _ a.len]at s;exact s
 ·have b:i<ts.length:=by simp at hi;omega
  have hm:i<m.length:=by rw[a.len];exact b
  have:=(a.row i _ _ (aX b) (aX hm)).1;simpa using this
def anP(D:Cd C){t0 v1:V}{B:K}{ts:List Nd}{l:List Bi}{F:Nat}{m:List (V×V)}(O:2000000<=F)(cp:Cp h n (.su B 0 ts.length 5) B ts m)
 (cr:∀(o z:S) x,ts[ts.length - 1]?=some x->x.vars=[(o,z)]->∃Bv,Cr h n B Bv ts m o z){h0:Hf}{n0:K}(r:Ext h0 n0 h n)(P:bK h0 n0 t0 ts)(W:fL h0 n0 v1 l)(X:Gl h0 n0)(nB:n0.num<=B.num)(nBv:∀(o z:S) Bv,Cr h n B Bv ts m o z->n0.num<=Bv.num)
 (so:∃s,So s ts)(hs:je ts=true)(f0:cX ts=0)(no:No ts)(hl:l.all sJ=true)(Y:l.length<=4)
 (Z:∀b∈l,b.1.length<=100/\No b.2)(E:∀h' n',Q (.b true) h' n'):WC C Cj [(k0,t0),(k1,v1),(k5,.su B 0 ts.length 5)] h n (fq [.t k4] Q):=by
 have G:=uR hs;have H:=cp.pos;have hlen:=G.len;have g:ts.length - 1<ts.length:=by omega
 have sl:κ h n 5 (.su B 0 ts.length 5) ts.length (bJ ts m):=by have o:dB h 35 5 (.su B 0 ts.length 5) ts.length (bJ ts m):=⟨pj cp.len,Or.inr ⟨cp.pos,B,cp.eq,cp.bk⟩⟩;exact o.sl (Or.inr cp.lt)
 obtain⟨x,a⟩:∃x,ts[ts.length - 1]?=some x:=⟨_,aX g⟩;obtain⟨p,hp⟩:∃p,m[ts.length - 1]?=some p:=⟨_,aX (by rw[cp.len];exact g)⟩;obtain⟨⟨r1,r2⟩,r3,r4⟩:=cp.row _ x p a hp;have fg:=cp.node a hp;have lv:bc h false 1 (.p B (0+(ts.length - 1)*5+3))=some p.1:=oF fg rfl;refine ε<|γ U<|γ U<|aJ U sl<|py U U (show((ts.length:Nat):Int) - 1=((ts.length - 1:Nat):Int) by omega) ⟨by omega,by omega⟩<|aV U U sl g<|γ U<|δ ?_;have om:x.vars.length<1000:=by have:=G.vl _ g;rw[aX g]at a;injection a with a;rw[a]at this;exact this
 refine φ<|ε<|γ U<|Fj U<|χ U<|ν U lv<|aJ U r1<|dD U U<|δ ?_;by_cases h1:x.vars.length=1
 case neg=>
  refine az U (by simp;omega)<|ay ?_;exact au (V4 D O (X.ext r) (P.ext r) (W.ext r) cp.t (anq hs f0 no so) hs f0 no hl Y Z E) (Θ.rf U)
 obtain⟨⟨o,z⟩,hv⟩:=List.length_eq_one_iff.1 h1;obtain⟨Bv,R⟩:=cr o z x a hv;have nV:=nBv o z Bv R;obtain⟨kv,hr⟩:=R.root;rw[hr]at hp;injection hp with hp;subst hp;have sv:∀{h' n'},Ext h n h' n'->κ h' n' 2 (.su Bv 0 1 2) 1 [st o,st z]:=λ{h' n'} e=>by have ow:dB h' 37 2 (.su Bv 0 1 2) 1 [st o,st z]:=⟨rfl,Or.inr ⟨by omega,Bv,rfl,by rw[e.2 _ R.lt];exact R.bk⟩⟩;exact ow.sl (Or.inr (by have:=R.lt;have:=e.1;show Bv.num<_;omega))
 have lo:bc h false 1 (.p Bv (0+0*2+0))=some (st o):=cH R.bk U _;refine ax U (by simp[hv]) ?_;refine ε<|γ U<|Fj U<|χ U<|ν U lv<|aV U U (sv (Ext.refl _ _)) ((show 0<1 by omega))<|χ U<|ν U lo<|γ U<|δ ?_;have hdl:Bd (ts.take (ts.length - 1)):=by have bn:=G.bn;refine Bd.of (by simp;omega) λy k=>bn y (tN k)
 refine ε<|γ U<|γ U<|aJ U sl<|py U U (show((ts.length:Nat):Int) - 1=((ts.length - 1:Nat):Int) by omega) ⟨by omega,by omega⟩<|Fk U sl U U (by omega) (by omega) <| λv' s' _=>ah U U<|w9 D (cp.take (by omega) s') hdl <| λvo h2 n2 e2 io=>γ U<|δ ?_;obtain⟨cs,ss⟩:=io.sl;refine φ<|ε<|γ U<|aJ U ss<|γ U<|δ ?_;refine aA<|au (anO (h0:=h2) (n0:=n2) (t0:=t0) (v1:=v1) (v5:=.su B 0 ts.length 5) (o:=o) (w:=vo) hdl io ?_ ?_ _ 0 h2 n2 rfl (by omega) (Ext.refl _ _) (by intro y k;simp at k)) (Θ.rf U)
 ·intro h' n' E' e' I;exact⟨_,show kA [.t k4] E' h'=some (.b true) by simp only[kA,qm,sW,I],E h' n'⟩
 intro J q E' e3 oi I;refine dO I ?_;have u:Ext h n J q:=e2.trans e3;have cp3:=cp.ext u;have R3:=R.ext u;have lv3:bc J false 1 (.p B (0+(ts.length - 1)*5+3))=some (.su Bv 0 1 2):=oF (cp3.node a hr) U;have bk3:=R3.bk;refine ε<|γ U<|Fj U<|χ U<|ν U lv3<|aV U U (sv u) ((show 0<1 by omega))<|χ U<|aR U U bk3 (mB rfl rfl rfl) <| λd L b4=>δ ?_;have b4:bA Bv J d:=b4;have L:d Bv=some (.c [st cm,st z] 37 0):=L;have A:=cp3.var R3 a L b4;have x4:Ext h0 n0 d q:=(r.trans u).Ξ b4 nV;have f:(ts.set (ts.length - 1) { x with vars:=[(cm,z)]}).length=ts.length:=by simp
 have ss4:κ d q 5 (.su B 0 ts.length 5) ts.length (bJ (ts.set (ts.length - 1) { x with vars:=[(cm,z)]}) m):=by have o:dB d 35 5 (.su B 0 ts.length 5) ts.length (bJ (ts.set (ts.length - 1) { x with vars:=[(cm,z)]}) m):=⟨by rw[pj A.len,f],Or.inr ⟨H,B,rfl,A.bk⟩⟩;exact o.sl (Or.inr A.lt)
 refine ε<|γ U<|aJ U ss4<|γ U<|δ ?_;have cp5:Cp d q (.su B 0 (ts.set (ts.length - 1) { x with vars:=[(cm,z)]}).length 5) B (kN o (ts.set (ts.length - 1) { x with vars:=[(cm,z)]}) 0) m:=by
  have:kN o (ts.set (ts.length - 1) { x with vars:=[(cm,z)]}) 0=ts.set (ts.length - 1) { x with vars:=[(cm,z)]}:=by simp[kN]
  rw[this,f];exact A
 have key:=anL (h0:=h0) (n0:=n0) (t0:=t0) (v1:=v1) (o:=o) (B:=B) (m:=m) (ts:=ts.set (ts.length - 1) { x with vars:=[(cm,z)]}) (C:=C) (Q1:=sq C Rj (fq [.t k4] Q)) (by rw[f];omega) (by rw[f];exact H) nB ?_ _ 0 d q rfl (by omega) x4 cp5
 ·rw[f]at key;exact aA<|au key (Θ.rf U)
 intro h5 n5 E5 M N hE5;refine dO hE5 ?_;have h3x:x.op≠3:=λe=>by have:=((rX.1 f0).2.1.wf.nv x (List.mem_of_getElem? a)).1 e;rw[hv]at this;cases this.2
 have eus:(ts.set (ts.length - 1) { x with vars:=[(cm,z)]}).map (eU o cm)=fi o cm ts:=by
  rw[GB a,hv,eY,List.map_nil];have:ts=ts.dropLast++[x]:=by rw[aX g]at a;injection a with a;rw[←a];have aG:ts≠[]:=List.ne_nil_of_length_pos H;have:=List.dropLast_concat_getLast aG;rw[List.getLast_eq_getElem]at this;exact this.symm
  have auT:ts.dropLast.length=ts.length - 1:=by simp
  conv=>lhs;rw[this]
  rw[List.set_append_right _ _ (by simp)];have e0':(ts.dropLast++[x]).length - 1 - ts.dropLast.length=0:=by simp
  rw[e0',List.set_cons_zero,List.map_append,eY,List.map_nil];have:eU o cm { x with vars:=[(cm,z)]}={ x with vars:=[(cm,z)]}:=by unfold eU;rw[Γ λe=>h3x e.1]
  rw[this]
 rw[eus]at N;have T:Tw ts (fi o cm ts) l:=ans hs f0 no so a hv λi hi y k v eO=>oi y (by
  have:(ts.take (ts.length - 1))[i]?=some y:=by rw[List.getElem?_take,ab (by omega)];exact k
  exact List.mem_of_getElem? this) v eO
 rw[f];exact V4 D O (X.ext M) (P.ext M) (W.ext M) (by rw[f]at N;exact N.t) T hs f0 no hl Y Z E
end
section
variable {C:Nat->Option aE}{h:Hf}{n:K}{Q:V->Hf->K->Prop}
def V8{E:Env}{ws:List K}:∀{E0:Env},(∀p∈E0,lk E p.1=some p.2/\p.1 ∉ ws)->∀k v,lk E0 k=some v->lk E k=some v/\k ∉ ws
 | [],_,k,v,h=>by cases h
 | (a,b)::E0,hp,k,v,h=>by
  simp only[lk]at h;cases hb:K.beq a k with
  | false=>rw[hb]at h;exact V8 (λp d=>hp p (by simp[d])) k v h
  | true=>
   rw[hb]at h;injection h with h;subst h;have:=K.beq_eq hb;subst this;exact hp (a,b) (by simp)
def lZ.key{es:List (V×V×Nat)}{c:Nat}{M:List (S×V)}(a:lZ es c M){e:V×V×Nat}(he:e∈es):∃s,e.1=st s:=by
 have:(e.1,e.2.1)∈M.map (λp=>(st p.1,p.2)):=by rw[←a.1];exact List.mem_map.2 ⟨e,he,rfl⟩
 obtain⟨p,_,h⟩:=List.mem_map.1 this;injection h with h1 _;exact⟨p.1,h1.symm⟩
def lZ.has{es:List (V×V×Nat)}{c:Nat}{M:List (S×V)}(a:lZ es c M){p:S×V}(hp:p∈M):∃e∈es,e.1=st p.1:=by
 have:(st p.1,p.2)∈es.map (λe=>(e.1,e.2.1)):=by rw[a.1];exact List.mem_map.2 ⟨p,hp,rfl⟩
 obtain⟨e,he,h⟩:=List.mem_map.1 this;injection h with h1 _;exact⟨e,he,h1⟩
abbrev OB:List K:=[ac6,ac7,ac8,ac9,yS,ada,adb,ade,adf,QO,QP,adg,k4]
def Bn3(e:V×V×Nat):Prop:=∃s:S,e.1=st s/\(100<s.length\/s=cm)
section
variable {t0 v1 v5:V}{bm:K}{es:List (V×V×Nat)}{c:Nat}{M:List (S×V)}
def anS(r:bm.num<n.num)(hm:h bm=some (.mp es c))(a:lZ es c M)(u:∀h' n',Q (.b true) h' n')
 (d:∀h' n',Ext h n h' n'->(∀p∈M,p.1.length<=100/\p.1≠cm)->WC C Cj [(k0,t0),(k1,v1),(k5,v5)] h' n' (fq [.t k4] Q)):
 WC C Rf [(k0,t0),(k1,v1),(k5,v5),(k6,.m bm)] h n (fq [.t k4] Q):=by
 refine φ<|ε<|γ U<|af5 U hm <| λf i A v j=>δ ?_;have l:bm≠n:=λe=>by subst e;omega
 have o:f bm=some (.mp es c):=by rw[j.2 _ r];exact hm
 refine aA<|af1 (E0:=[(k0,t0),(k1,v1),(k5,v5),(QN,.p n 0)]) (kr:=k4) (w:=.b true) (b:=n) (m:=bm) Bn3 rfl v o l a.2 rfl (λk d=>d) (V8 λp hp=>?_) U (acW true) (λe he=>?_) (λhb h2 b2=>?_) (λhb=>?_)
 ·simp only[cD,tO,or_false]at hp;rcases hp with rfl | rfl | rfl | rfl
  ·exact⟨rfl,show k0 ∉ OB by decide⟩
  ·exact⟨rfl,show k1 ∉ OB by decide⟩
  ·exact⟨rfl,show k5 ∉ OB by decide⟩
  ·exact⟨rfl,show QN ∉ OB by decide⟩
 ·obtain⟨s,hs⟩:=a.key he;have y:hp f n (some (.me bm c e.2.2)) bm=some (.mp es c):=by rw[mu _ _ l];exact o
  refine bU U U<|δ ?_;refine φ<|ax U U<|ay ?_;refine aA ?_;have hf:=afY a.2 e he;rw[hs]at hf;refine ε<|af6 U (eJ _ _ _) y hf<|bU U U<|γ U<|δ ?_;by_cases h1:100<s.length
  ·refine ε<|γ U<|du U<|dH U U<|γ U<|θ U (by simp;omega)<|θ U (by simp;omega)<|bh U (by simp;omega) U<|δ ?_;refine ax U U ?_;refine ε<|γ U<|δ (aj (.inr ⟨rfl,⟨s,hs,.inl h1⟩,rfl⟩))
  ·by_cases h2:s=cm
   ·refine ε<|γ U<|du U<|dH U U<|γ U<|ζ U (by simp;omega)<|γ U<|ζ U (by simp;omega)<|iS (b:=[111,116,104,101,114]) U U<|aW U (by simp;omega) U<|δ ?_;refine ax U (by simp[h2]) ?_;refine ε<|γ U<|δ (aj (.inr ⟨rfl,⟨s,hs,.inr h2⟩,rfl⟩))
   ·refine ε<|γ U<|du U<|dH U U<|γ U<|ζ U (by simp;omega)<|γ U<|ζ U (by simp;omega)<|iS (b:=[111,116,104,101,114]) U U<|aW U (by simp;omega) U<|δ ?_;refine az U (by simp[h2])<|ay (.inl ⟨rfl,?_⟩);rintro⟨s',q,g⟩;rw[hs]at q;have:=VY q;subst this;rcases g with g | g
    ·exact h1 g
    ·exact h2 g
 ·exact⟨_,rfl,u h2 i⟩
 ·refine bU U U<|δ ?_;refine φ<|az U U<|bG ⟨(by intro h;cases h),?_⟩;have x:Ext h n (hp f n none) i:=j.Ξ (jr _ _ _) (ξ _);refine au (d _ _ x λp hp=>?_) (Θ.rf U);obtain⟨e,he,h1⟩:=a.has hp;refine⟨?_,λh2=>hb e he ⟨p.1,h1,.inr h2⟩⟩;by_cases z:100<p.1.length
  ·exact absurd ⟨p.1,h1,.inl z⟩ (hb e he)
  ·omega
end
def V9{ts:List Nd}{M:List (S×V)}(b:∀s∈pM ts,∃p∈M,p.1=s)(h:∀p∈M,p.1.length<=100/\p.1≠cm):No ts:=λx a=>by
 have key:∀s∈pM ts,s.length<=100/\s≠cm:=λs hs=>by obtain⟨p,hp,rfl⟩:=b s hs;exact h p hp
 exact⟨key _ (List.mem_flatMap.2 ⟨x,a,by simp⟩),λv hv=>key _ (List.mem_flatMap.2 ⟨x,a,List.mem_cons_of_mem _ (List.mem_map.2 ⟨v,hv,rfl⟩)⟩)⟩
def w3(d:Cd C){t vl:V}{ts:List Nd}{l:List Bi}{F:Nat}(hF:2000000<=F){G:Hf->K->Prop}(hlen:l.length<10000000)(j:A6 ts)(E:∀b∈l,A6 b.2)(H:∀{h n h' n'},G h n->Ext h n h' n'->G h' n')(k:∀{h n} {Q:V->Hf->K->Prop},G h n->Q (.b true) h n->μ C (.f 5 [] []) [] h n Q)
 (q:G h n)(I:Gl h n)(ht:bK h n t ts)(hl:fL h n vl l)(v:∀h' n',Q (.b true) h' n'):μ C (.f 3 [] []) [t,vl] h n Q:=by
 refine μ.go d.f3 U ?_;obtain⟨cs,sl⟩:=hl.sl;refine ε<|γ U<|δ ?_;by_cases h1:je ts=true
 case neg=>
  refine φ<|ε<|ah U U<|k q<|cz U<|γ U<|ζ U (rfl)<|γ U<|ζ U (rfl)<|ah U U<|w6 d ht j<|ζ U (rfl)<|cz U<|aW U (rfl) U<|γ U<|θ U (by simp[h1])<|θ U (by simp[h1])<|θ U (by simp[h1])<|bh U (by simp[h1]) U<|γ U<|θ U U<|θ U U<|θ U U<|θ U U<|bh U U U<|δ ?_;refine ax U U ?_;refine ε<|ah U U<|k q<|γ U<|δ (aj ⟨_,rfl,v _ _⟩)
 by_cases a:(l.all sJ&&decide (l.length<=4))=true
 case neg=>
  simp only[sN]at a;refine φ<|ε<|ah U U<|k q<|cz U<|γ U<|ζ U (rfl)<|γ U<|ζ U (rfl)<|ah U U<|w6 d ht j<|ζ U (rfl)<|cz U<|aW U (rfl) U<|γ U<|ζ U (by simp[h1])<|γ U<|ζ U (by simp[h1])<|ah U U<|w7 d hl hlen E <| λh0 n0 i=>ζ U (by simp[h1])<|cz U<|aW U (by simp[h1]) U<|γ U<|θ U (congrArg not a)<|θ U (congrArg not a)<|θ U (congrArg not a)<|θ U (congrArg not a)<|bh U (congrArg not a) U<|δ ?_;refine ax U U ?_;refine ε<|ah U U<|k (H q i)<|γ U<|δ (aj ⟨_,rfl,v _ _⟩)
 have u:=uR h1;by_cases f0:cX ts=0
 case neg=>
  refine φ<|ε<|ah U U<|k q<|cz U<|γ U<|ζ U (rfl)<|γ U<|ζ U (rfl)<|ah U U<|w6 d ht j<|ζ U (rfl)<|cz U<|aW U (rfl) U<|γ U<|ζ U (by simp[h1])<|γ U<|ζ U (by simp[h1])<|ah U U<|w7 d hl hlen E <| λh0 n0 i=>ζ U (by simp[h1])<|cz U<|aW U (by simp[h1]) U<|γ U<|ζ U (congrArg not a)<|γ U<|ζ U (congrArg not a)<|ah U U<|w9 d (ht.ext i) u <| λva h1 n1 Y J=>ζ U (congrArg not a)<|ah U U<|w8 d u ((I.ext i).ext Y) J <| λh2 n2 e2=>ζ U (congrArg not a)<|fJ U U<|aW U (congrArg not a) U<|δ ?_;refine ax U (by simp[f0]) ?_;refine ε<|ah U U<|k (H q ((i.trans Y).trans e2))<|γ U<|δ (aj ⟨_,rfl,v _ _⟩)
 refine φ<|ε<|ah U U<|k q<|cz U<|γ U<|ζ U (rfl)<|γ U<|ζ U (rfl)<|ah U U<|w6 d ht j<|ζ U (rfl)<|cz U<|aW U (rfl) U<|γ U<|ζ U (by simp[h1])<|γ U<|ζ U (by simp[h1])<|ah U U<|w7 d hl hlen E <| λh0 n0 i=>ζ U (by simp[h1])<|cz U<|aW U (by simp[h1]) U<|γ U<|ζ U (congrArg not a)<|γ U<|ζ U (congrArg not a)<|ah U U<|w9 d (ht.ext i) u <| λva ha na Z J=>ζ U (congrArg not a)<|ah U U<|w8 d u ((I.ext i).ext Z) J <| λhb nb eb=>ζ U (congrArg not a)<|fJ U U<|aW U (congrArg not a) U<|δ ?_;rw[f0];have xb:=(i.trans Z).trans eb;refine az U (by simp)<|ay ?_;simp only[aD,cC]at a;have gg:∀b∈l,Bd b.2:=λb hb=>by have:=(kX.1 a.1) b hb;simp only[sJ,aD]at this;exact uR this.1
 refine φ<|ε<|γ U<|ah U U<|w10 d (ht.ext xb) u <| λr hc nc ec so=>cz U<|δ ?_;have w:=xb.trans ec;cases r with
 | false=>
  refine ax U U ?_;refine ε<|ah U U<|k (H q w)<|γ U<|δ (aj ⟨_,rfl,v _ _⟩)
 | true=>
  have so:=so rfl;refine az U U<|ay ?_;have L:=ht.ext w;have j1:=hl.ext w;have jg:=I.ext w;refine ε<|γ U<|ah U U<|w9h d L u <| λv5 m y nd D to ow xl=>γ U<|δ ?_;have hp:=(rX.1 f0).2.1.fx.pos;have cp:=Cp.of hp to ow;have e5:=cp.eq;generalize hB:v5.blk=B at cp e5;subst e5;have auU:=cp.lt;have geB:nc.num<=B.num:=by
   rcases to.ge with g | g
   ·cases g
   ·exact g
  have cr:∀(o z:S) x,ts[ts.length - 1]?=some x->x.vars=[(o,z)]->∃Bv,Cr y nd B Bv ts m o z:=λo z x j hv=>Cr.of to ow xl j hv;have geV:∀(o z:S) Bv,Cr y nd B Bv ts m o z->nc.num<=Bv.num:=λo z Bv R=>by
   obtain⟨kv,N⟩:=R.root;obtain⟨O,P⟩:=cZ.1 N;have T:=to.rows.get (ts.length - 1) (by omega) O;have:=T.vr;rw[P]at this;rcases this with g | g
   ·cases g
   ·exact g
  have xd:=w.trans D;have zd:=L.ext D;have uU:=j1.ext D;refine ε<|Sr <| λhe ne aG ae ee=>γ U<|δ ?_;obtain⟨OC,s0⟩:=(zd.ext ee).sl;have lt0:∀{h' n'},Ext he ne h' n'->nd.num<n'.num:=λe=>by have:=e.1;omega
  refine φ<|ε<|γ U<|aJ U s0<|γ U<|δ ?_;refine aA<|au (anD (h0:=y) (bm:=nd) (t0:=t) (v1:=vl) (v5:=.su B 0 ts.length 5) (A:=[]) zd u ?_ _ 0 he ne [] 0 [] rfl (by omega) ee (by omega) ae ⟨rfl,rfl⟩ (by intro s hs;simp[pM]at hs)) (Θ.rf U);intro h3 n3 E3 vL c3' M3 e3 ln3 m3 L3 K3 hE3;refine dO hE3 ?_;obtain⟨cs1,s1⟩:=(uU.ext e3).sl;refine φ<|ε<|γ U<|aJ U s1<|γ U<|δ ?_;refine aA<|au (anF (h0:=y) (bm:=nd) (t0:=t) (v1:=vl) (v5:=.su B 0 ts.length 5) (A:=pM ts) uU (by omega) gg ?_ _ 0 h3 n3 vL c3' M3 rfl (by omega) e3 ln3 m3 L3 (by simpa[uV]using K3)) (Θ.rf U);intro h4 n4 E4 Ds c4 M4 e4 ln4 m4 L4 K4 hE4;refine dO hE4 ?_;refine anS ln4 m4 L4 v λh5 n5 x5 W=>?_;have X:=e4.trans x5;have no:No ts:=V9 (λs hs=>K4 s (by simp[hs])) W;have hn:∀b∈l,b.1.length<=100/\No b.2:=λb hb=>by have mem:∀s∈b.1::pM b.2,s∈pM ts++uV l:=λs hs=>eG.2 (.inr (List.mem_flatMap.2 ⟨b,hb,hs⟩));refine⟨?_,V9 (λs hs=>K4 s (mem s (by simp[hs]))) W⟩;obtain⟨p,wN,e⟩:=K4 b.1 (mem _ (by simp));rw[←e];exact(W p wN).1
  exact anP d hF (cp.ext X) (λo z x j hv=>by obtain⟨Bv,R⟩:=cr o z x j hv;exact⟨Bv,R.ext X⟩) (D.trans X) L j1 jg geB (λo z Bv R=>by
   obtain⟨kv,N⟩:=R.root;obtain⟨O,P⟩:=cZ.1 N;have T:=to.rows.get (ts.length - 1) (by omega) O;have:=T.vr;rw[P]at this;rcases this with g | g
   ·cases g
   ·exact g) so h1 f0 no a.1 a.2 hn v
end
end Go.Ev.X
