/- A part of the proof. -/
import Derived.Test.YtpdbepbhlalldaaGreatDoorI
set_option linter.all false
namespace Go.Ev.X
open Go Go.Ev
attribute [local irreducible] WC WO WD SO τ
section
variable {C:Nat->Option bP}{h:Hf}{n:K}{Q:V->Hf->K->Prop}
theorem aka(hC:Cd C){va vb:V}{l:List Int}(ha:gh h n .i64 va l)(hb:gh h n .i64 vb l)(hl:l.length<1000000)(hQ:Q (.b true) h n):τ C (.f 137 [] []) [va,vb] h n Q:=by
 refine τ.go hC.f137 U ?_;refine θ<|γ U<|ε ?_;refine ν<|θ<|γ U<|aG U ha<|γ U<|aG U hb<|fT U U<|ε ?_;refine aE U (by simp)<|ao ?_;refine ν<|θ<|γ U<|ε ?_;have loop:∀(r i:Nat),l.length - i=r->i<=l.length->WC C UT [(k0,va),(k1,vb),(k5,.i .i64 (i:Nat))] h n (blk 0 (sq C UU (fq [.t k4] Q))):=by
  intro r
  induction r with
  | zero=>
   intro i hr hi;refine aQ ?_;refine ν<|θ<|γ U<|γ U<|aG U ha<|aP U U<|ε ?_;refine aE U (by simp<;>omega)<|bW ?_;refine θ<|γ U<|ε (aj ⟨_,rfl,hQ⟩)
  | succ r ih=>
   intro i hr hi;have ψ:i<l.length:=by omega
   refine aQ ?_;refine ν<|θ<|γ U<|γ U<|aG U ha<|aP U U<|ε ?_;refine aD U (by simp<;>omega)<|ao ?_;refine ν<|aK<|eS<|aL U<|aL U<|et U U ha ψ<|bc U (ha.get ψ _) U (by simp[dH,iC,dD,jW])<|aL U<|aL U<|et U U hb ψ<|bc U (hb.get ψ _) U (by simp[dH,iC,dD,jW])<|Eh U U<|dQ (by simp[AG,mn,pv,Nat.testBit]) ?_;refine aE U (by simp)<|ao ?_;refine aR<|γ U<|cK U U ⟨by omega,by omega⟩<|γ U<|ε ?_;exact ae (ih (i+1) (by omega) (by omega)) ⟨rfl,rfl,rfl,trivial⟩
 exact aK<|ae (loop _ 0 rfl (by omega)) ⟨rfl,rfl,rfl,trivial⟩
theorem w11(hC:Cd C){va vb:V}{l:List (S×S)}(ha:fC h n va l)(hb:fC h n vb l)(hl:l.length<1000000)(hQ:Q (.b true) h n):τ C (.f 11 [] []) [va,vb] h n Q:=by
 refine τ.go hC.f11 U ?_;refine θ<|γ U<|ε ?_;refine ν<|θ<|γ U<|aG U ha<|γ U<|aG U hb<|fT U U<|ε ?_;refine aE U (by simp)<|ao ?_;refine ν<|θ<|γ U<|ε ?_;have loop:∀(r i:Nat),l.length - i=r->i<=l.length->WC C UR [(k0,va),(k1,vb),(k5,.i .i64 (i:Nat))] h n (blk 0 (sq C US (fq [.t k4] Q))):=by
  intro r
  induction r with
  | zero=>
   intro i hr hi;refine aQ ?_;refine ν<|θ<|γ U<|γ U<|aG U ha<|aP U U<|ε ?_;refine aE U (by simp<;>omega)<|bW ?_;refine θ<|γ U<|ε (aj ⟨_,rfl,hQ⟩)
  | succ r ih=>
   intro i hr hi;have ψ:i<l.length:=by omega
   refine aQ ?_;refine ν<|θ<|γ U<|γ U<|aG U ha<|aP U U<|ε ?_;refine aD U (by simp<;>omega)<|ao ?_;refine ν<|aK<|eS<|aL U<|aL U<|et U U ha ψ<|bc U (ha.nO ψ) U (by simp[dH,lE,dD])<|aL U<|aL U<|et U U hb ψ<|bc U (hb.nO ψ) U (by simp[dH,lE,dD])<|adi U U (aii _ _)<|dQ (by simp[AG,mn,pv,Nat.testBit]) ?_;refine aE U (by simp)<|ao ?_;refine aR<|γ U<|cK U U ⟨by omega,by omega⟩<|γ U<|ε ?_;exact ae (ih (i+1) (by omega) (by omega)) ⟨rfl,rfl,rfl,trivial⟩
 exact aK<|ae (loop _ 0 rfl (by omega)) ⟨rfl,rfl,rfl,trivial⟩
theorem w55(hC:Cd C){ta tb:V}{ts:List Nd}(Ph:db h n ta ts)(Pj:db h n tb ts)(hb:Bd ts)(hQ:Q (.b true) h n):τ C (.f 55 [] []) [ta,tb] h n Q:=by
 refine τ.go hC.f55 U ?_;obtain⟨cs,hs⟩:=Ph.sl;obtain⟨DJ,sj⟩:=Pj.sl;have hlen:=hb.len;refine θ<|γ U<|ε ?_;refine ν<|θ<|γ U<|aG U hs<|γ U<|aG U sj<|fT U U<|ε ?_;refine aE U (by simp)<|ao ?_;refine ν<|θ<|γ U<|ε ?_;have loop:∀(r i:Nat),ts.length - i=r->i<=ts.length->WC C UP [(k0,ta),(k1,tb),(k5,.i .i64 (i:Nat))] h n (blk 0 (sq C UQ (fq [.t k4] Q))):=by
  intro r
  induction r with
  | zero=>
   intro i hr hi;refine aQ ?_;refine ν<|θ<|γ U<|γ U<|aG U hs<|aP U U<|ε ?_;refine aE U (by simp<;>omega)<|bW ?_;refine θ<|γ U<|ε (aj ⟨_,rfl,hQ⟩)
  | succ r ih=>
   intro i hr hi;have ψ:i<ts.length:=by omega
   obtain⟨vx,kx,xx⟩:=Ph.node ψ;obtain⟨vy,ky,yy⟩:=Pj.node ψ;have eU:=hb.qg i ψ;have ug:=hb.vl i ψ;refine aQ ?_;refine ν<|θ<|γ U<|γ U<|aG U hs<|aP U U<|ε ?_;refine aD U (by simp<;>omega)<|ao ?_;refine ν<|aK<|eS<|aL U<|aL U<|et U U hs ψ<|dG U<|bc U (xx.op _) U (by simp[dH,iC,dD,jW])<|aL U<|aL U<|et U U sj ψ<|dG U<|bc U (yy.op _) U (by simp[dH,iC,dD,jW])<|Eh U U<|aL U<|bF U (by simp)<|aL U<|bF U (by simp)<|aL U<|bF U (by simp)<|et U U hs ψ<|bF U (by simp)<|dG U<|bF U (by simp)<|bc U (xx.sort _) U (nQ _ _)<|bF U (by simp)<|aL U<|bF U (by simp)<|aL U<|bF U (by simp)<|et U U sj ψ<|bF U (by simp)<|dG U<|bF U (by simp)<|bc U (yy.sort _) U (nQ _ _)<|bF U (by simp)<|RP U U<|rO U (by simp) U<|aL U<|bF U (by simp)<|aL U<|bF U (by simp)<|aL U<|bF U (by simp)<|et U U hs ψ<|bF U (by simp)<|dG U<|bF U (by simp)<|bc U (xx.name _) U (nQ _ _)<|bF U (by simp)<|aL U<|bF U (by simp)<|aL U<|bF U (by simp)<|et U U sj ψ<|bF U (by simp)<|dG U<|bF U (by simp)<|bc U (yy.name _) U (nQ _ _)<|bF U (by simp)<|RP U U<|rO U (by simp) U<|aL U<|bF U (by simp)<|aL U<|bF U (by simp)<|aL U<|bF U (by simp)<|et U U hs ψ<|bF U (by simp)<|dG U<|bF U (by simp)<|bc U (xx.vs _) (ρ.below xx.vars (Γ _)) (ρ.dX xx.vars)<|bF U (by simp)<|aL U<|bF U (by simp)<|aL U<|bF U (by simp)<|et U U sj ψ<|bF U (by simp)<|dG U<|bF U (by simp)<|bc U (yy.vs _) (ρ.below yy.vars (Γ _)) (ρ.dX yy.vars)<|bF U (by simp)<|cJ U U<|w11 hC xx.vars yy.vars (by omega)<|bF U (by simp)<|rP U<|rO U (by simp) U<|aL U<|bF U (rfl)<|aL U<|bF U (rfl)<|aL U<|bF U (rfl)<|et U U hs ψ<|bF U (rfl)<|dG U<|bF U (rfl)<|bc U (xx.ks _) (ρ.below xx.kids (Γ _)) (ρ.dX xx.kids)<|bF U (rfl)<|aL U<|bF U (rfl)<|aL U<|bF U (rfl)<|et U U sj ψ<|bF U (rfl)<|dG U<|bF U (rfl)<|bc U (yy.ks _) (ρ.below yy.kids (Γ _)) (ρ.dX yy.kids)<|bF U (rfl)<|cJ U U<|aka hC xx.kids yy.kids (by omega)<|bF U (rfl)<|rP U<|rO U (rfl) U<|dQ (⟨⟨ak (by simp[Nat.testBit]),ak (by simp[Nat.testBit]),trivial⟩,⟨ak (by simp[Nat.testBit]),ak (by simp[Nat.testBit]),trivial⟩,⟨ak (by simp[Nat.testBit]),ak (by simp[Nat.testBit]),trivial⟩,⟨ak (by simp[Nat.testBit]),ak (by simp[Nat.testBit]),trivial⟩,⟨ak (by simp[Nat.testBit]),ak (by simp[Nat.testBit]),trivial⟩,⟨ak (by simp[Nat.testBit]),ak (by simp[Nat.testBit]),trivial⟩,⟨ak (by simp[Nat.testBit]),ak (by simp[Nat.testBit]),trivial⟩,⟨ak (by simp[Nat.testBit]),ak (by simp[Nat.testBit]),trivial⟩,⟨ak (by simp[Nat.testBit]),ak (by simp[Nat.testBit]),trivial⟩,⟨ak (by simp[Nat.testBit]),ak (by simp[Nat.testBit]),trivial⟩,trivial⟩) ?_;refine aE U U<|ao ?_;refine aR<|γ U<|cK U U ⟨by omega,by omega⟩<|γ U<|ε ?_;exact ae (ih (i+1) (by omega) (by omega)) ⟨rfl,rfl,rfl,trivial⟩
 exact aK<|ae (loop _ 0 rfl (by omega)) ⟨rfl,rfl,rfl,trivial⟩
theorem w15(hC:Cd C){ta tb:V}{ts:List Nd}{e:Int}(Ph:db h n ta ts)(Pj:db h n tb ts)(hb:Bd ts)(hQ:Q (.b true) h n):τ C (.f 15 [] []) [ta,.i .i64 e,tb,.i .i64 e] h n Q:=by refine τ.go hC.f15 U ?_;refine θ<|γ U<|ε ?_;refine θ<|γ U<|γ U<|al U U<|w55 hC Ph Pj hb<|γ U<|κ U (rfl)<|γ U<|κ U (rfl)<|γ U<|κ U (rfl)<|bQ U U<|cg U (rfl) U<|γ U<|ε (aj ⟨_,rfl,?_⟩);rw[qo rfl];exact hQ
end
section
variable {C:Nat->Option bP}{h:Hf}{n:K}{Q:V->Hf->K->Prop}
theorem akc(hC:Cd C){t:V}{l:List Int}(ht:gh h n .i64 t l)(hlen:l.length<20000000)
 (hQ:∀v' h' n',Ext h n h' n'->Ow h' n' 3 1 v' l.length (eI .i64 l)->(v'=.ns\/n.num<=v'.blk.num)->Q v' h' n'):τ C (.f 196 [] []) [t] h n Q:=by
 refine τ.go hC.f196 U ?_;refine θ<|γ U<|ε ?_;have go:oE .eql (.one .slice) t .ns=some (.b false)->WC C UD [(k0,t)] h n (fq [.t k2] Q):=by intro hv;refine ν<|θ<|γ U<|HV U U hv<|ε ?_;refine aE U U<|ao ?_;refine θ<|fx U <| λh1 n1 dZ a1 e1=>γ U<|WX U (ρ.whole (len:=0) (by omega) a1 rfl) U (ht.ext e1) (by omega) (by omega) (by omega) <| λv3 h3 n3 o3 e3 p3=>γ U<|ε ?_;exact aj ⟨_,rfl,hQ v3 h3 n3 (e1.trans e3) o3 (p3.imp id λh=>by rcases h with h | h<;>rw[h]<;>omega)⟩
 obtain⟨g1,g2⟩:=id ht;rcases g2 with g | ⟨⟨b,o,c,g,_⟩,_⟩
 ·have hl:l=[]:=nM.1 g.2;rw[g.1];refine ν<|θ<|γ U<|HV U U U<|ε ?_;refine aD U U ?_;refine θ<|γ U<|ε ?_;refine aj ⟨_,rfl,hQ .ns h n (Ext.refl h n) (Or.inl ⟨?_,Or.inl U⟩) (Or.inl U)⟩;rw[hl];exact gp.ns h 3 1
 ·refine ae (go ?_) ⟨rfl,trivial⟩;rcases g with g | g
  ·rw[g.1];rfl
  ·rw[g];rfl
theorem Xy(hC:Cd C){t:V}{l:List (S×S)}(ht:fC h n t l)(hlen:l.length<20000000)
 (hQ:∀v' h' n',Ext h n h' n'->Ow h' n' 64 2 v' l.length (px l)->(v'=.ns\/n.num<=v'.blk.num)->Q v' h' n'):τ C (.f 124 [] []) [t] h n Q:=by
 refine τ.go hC.f124 U ?_;refine θ<|γ U<|ε ?_;have go:oE .eql (.one .slice) t .ns=some (.b false)->WC C UE [(k0,t)] h n (fq [.t k2] Q):=by intro hv;refine ν<|θ<|γ U<|HV U U hv<|ε ?_;refine aE U U<|ao ?_;refine θ<|fx U <| λh1 n1 dZ a1 e1=>γ U<|WX U (ρ.whole (len:=0) (by omega) a1 rfl) U (ht.ext e1) (by omega) (by omega) (by omega) <| λv3 h3 n3 o3 e3 p3=>γ U<|ε ?_;exact aj ⟨_,rfl,hQ v3 h3 n3 (e1.trans e3) o3 (p3.imp id λh=>by rcases h with h | h<;>rw[h]<;>omega)⟩
 obtain⟨g1,g2⟩:=id ht;rcases g2 with g | ⟨⟨b,o,c,g,_⟩,_⟩
 ·have hl:l=[]:=nM.1 g.2;rw[g.1];refine ν<|θ<|γ U<|HV U U U<|ε ?_;refine aD U U ?_;refine θ<|γ U<|ε ?_;refine aj ⟨_,rfl,hQ .ns h n (Ext.refl h n) (Or.inl ⟨?_,Or.inl U⟩) (Or.inl U)⟩;rw[hl];exact gp.ns h 64 2
 ·refine ae (go ?_) ⟨rfl,trivial⟩;rcases g with g | g
  ·rw[g.1];rfl
  ·rw[g];rfl
theorem akd{v:V}:∀(l:List Nd) (m:List (V×V)) (i:Nat) (hm:m.length=l.length) (hi:i<m.length),(dc l m).set (i*5+4) v=dc l (m.set i (m[i].1,v)):=by
 intro l
 induction l with
 | nil=>intro m i hm hi;rw[hm]at hi;simp at hi
 | cons x l ih=>
  intro m i hm hi;cases m with
  | nil=>simp at hi
  | cons p m=>
   cases i with
   | zero=>rfl
   | succ i=>
    have:=ih m i (by simpa using hm) (by simpa using hi);rw[show(i+1)*5+4=(i*5+4)+5 by omega];simp only[xC,xw];show(dT x p.1 p.2++dc l m).set _ _=dT x p.1 p.2++dc l (m.set i ((m[i]'(by simpa using hi)).1,v));rw[←this];rfl
theorem ake{v:V}:∀(l:List Nd) (m:List (V×V)) (i:Nat) (hm:m.length=l.length) (hi:i<m.length),(dc l m).set (i*5+3) v=dc l (m.set i (v,m[i].2)):=by
 intro l
 induction l with
 | nil=>intro m i hm hi;rw[hm]at hi;simp at hi
 | cons x l ih=>
  intro m i hm hi;cases m with
  | nil=>simp at hi
  | cons p m=>
   cases i with
   | zero=>rfl
   | succ i=>
    have:=ih m i (by simpa using hm) (by simpa using hi);rw[show(i+1)*5+3=(i*5+3)+5 by omega];simp only[xC,xw];show(dT x p.1 p.2++dc l m).set _ _=dT x p.1 p.2++dc l (m.set i (v,(m[i]'(by simpa using hi)).2));rw[←this];rfl
theorem akf{v:V}{l:List Nd}{m:List (V×V)}{i:Nat}(h1:v.cells=[v])(h2:v.one=true)(hm:m.length=l.length)(hi:i<m.length):mG (dc l m) 0 (0+i*5+4) 1 v=some (dc l (m.set i (m[i].1,v))):=by refine HT h1 h2 ?_;rw[HY v (by rw[wm hm];omega),show 0+i*5+4=i*5+4 by omega,akd l m i hm hi]
theorem akg{v:V}{l:List Nd}{m:List (V×V)}{i:Nat}(h1:v.cells=[v])(h2:v.one=true)(hm:m.length=l.length)(hi:i<m.length):mG (dc l m) 0 (0+i*5+3) 1 v=some (dc l (m.set i (v,m[i].2))):=by refine HT h1 h2 ?_;rw[HY v (by rw[wm hm];omega),show 0+i*5+3=i*5+3 by omega,ake l m i hm hi]
theorem akh:∀{l:List Nd} {m:List (V×V)},(∀p∈m,p.1.one=true/\p.2.one=true)->bN (dc l m)=true:=by
 intro l
 induction l with
 | nil=>intro m _;cases m<;>rfl
 | cons x l ih=>
  intro m hm;cases m with
  | nil=>rfl
  | cons p m=>
   have h1:=hm p (by simp);have h2:=ih (m:=m) λq hq=>hm q (by simp[hq]);show bN (dT x p.1 p.2++dc l m)=true;simp only[dT,vM,List.nil_append,bN,h1.1,h1.2,h2];rfl
theorem xR(z:List V):∀m:Nat,(gu z m).length=m*z.length:=by
 intro m
 induction m with
 | zero=>simp[gu]
 | succ m ih=>simp[gu,ih,vP,qs]
theorem RO.eY{h h':Hf}{lo n n':K}{v:V}{x:Nd}{p:V×V}(a:RO h lo n v x p)(hv:v≠.ns)(hs:∀b:K,b.num<n.num->b.num≠v.blk.num->h' b=h b)(hn:n.num<=n'.num):RO h' lo n' v x p:=by
 have e:∀{w:V},(w=.ns\/w.blk.num<n.num)->dh w v->w=.ns\/h' w.blk=h w.blk:=by
  intro w h1 h2;rcases h1 with l | l
  ·exact Or.inl l
  ·rcases h2 with g | g | g
   ·exact Or.inl g
   ·exact absurd g hv
   ·exact Or.inr (hs _ l g)
 have e1:=e (ρ.eG a.b) a.vt;have e2:=e (ρ.eG a.k) a.kt;refine⟨ρ.gq a.b e1 hn,ρ.gq a.k e2 hn,?_,a.kr,a.vr,a.vk,a.vt,a.kt⟩;rcases a.ko with g | g
 ·exact Or.inl g
 ·rcases e2 with e | e
  ·have:=g.1;rw[e]at this;cases this
  ·exact Or.inr ⟨g.1,by rw[e];exact g.2⟩
end
section
variable {C:Nat->Option bP}{h:Hf}{n:K}{Q:V->Hf->K->Prop}
theorem Ow.ko{v:V}{l:List Int}(a:Ow h n 3 1 v l.length (eI .i64 l)):l=[]\/(v=.su v.blk 0 l.length 1/\h v.blk=some (.c (eI .i64 l) 3 0)):=by
 rcases a with ⟨a,_⟩ | ⟨b,_,h2,_⟩
 ·rcases a.su with g | g
  ·exact Or.inl (nM.1 (a.nil g))
  ·exact Or.inr g
 ·exact Or.inl (nM.1 h2)
theorem set_drop{α:Type}(m m0:List α)(hi:m.length<m0.length)(a b:α):((m++m0.drop m.length).set m.length a).set m.length b=m++[b]++m0.drop (m.length+1):=by rw[List.set_set,List.set_append_right _ _ (Γ _),qp,gi hi,List.set_cons_zero,uF];rfl
section
variable {h0:Hf}{n0 b:K}{t:V}{ts:List Nd}{m0:List (V×V)}
theorem aki(hC:Cd C)(zV:lM h0 n0 t ts m0)(hb:Bd ts)(eJ:n0.num<=b.num){Q1:Ex->Env->Hf->K->Prop}
 (hQ:∀m h n E',Ext h0 n0 h n->TO h n0 n (.sl b 0 ts.length ts.length) ts m->da [(k3,.sl b 0 ts.length ts.length)] E'->Q1 .normal E' h n):
 ∀(r i:Nat) (m:List (V×V)) (h:Hf) (n:K),ts.length - i=r->i<=ts.length->m.length=i->b.num<n.num->Ext h0 n0 h n->h b=some (.c (dc ts (m++m0.drop i)) 87 0)->dw (RO h n0 n (.sl b 0 ts.length ts.length)) (ts.take i) m->(m.Pairwise λp q=>dh p.2 q.2/\dh p.1 q.2/\dh p.2 q.1)->WC C UC [(k3,.sl b 0 ts.length ts.length),(aN,.i .i64 (ts.length:Nat)),(aO,.i .i64 (i:Nat))] h n (blk 0 Q1):=by
 have hlen:=hb.len;obtain⟨DT,sY,hrw⟩:=zV;intro r
 induction r with
 | zero=>
  intro i m h n hr hi hm gz hx hc fo Zv;have:i=ts.length:=by omega
  subst this;rw[fO]at fo;have hd:m++m0.drop ts.length=m:=by rw[ql (by omega),List.append_nil]
  rw[hd]at hc;refine aQ ?_;refine θ<|aP U U<|ε ?_;exact ν<|aE U (by simp)<|bW (hQ m h n _ hx ⟨ρ.whole gz hc (wm hm),fo,Zv,Or.inr eJ⟩ ⟨rfl,trivial⟩)
 | succ r ih=>
  intro i m h n hr hi hm gz hx hc fo Zv;have ψ:i<ts.length:=by omega
  have eU:=hb.qg i ψ;have ug:=hb.vl i ψ;have KA:i<m0.length:=by omega
  obtain⟨YX,iD⟩:=hrw i ψ;have Zw:=ρ.ext YX hx;have Gy:=ρ.ext iD hx;have Zx:(m++m0.drop i).length=ts.length:=by simp;omega
  have hMi:(m++m0.drop i)[i]'(by omega)=m0[i]:=by rw[List.getElem_append_right (by omega)];simp[hm]
  have sl:ρ h n 5 (.sl b 0 ts.length ts.length) ts.length (dc ts (m++m0.drop i)):=ρ.whole gz hc (wm Zx);have iS:∀{h' n'},Ext h n h' n'->cD h' true 5 (.p b (0+i*5))=some (.a (dT ts[i] m0[i].1 m0[i].2)):=by intro h' n' e;have:=(sl.ext e).nO (i:=i*5) (sz:=5) (by omega) (by omega);rw[wo Zx ψ,hMi]at this;exact this
  have ldk:cD h false 1 (.p b (0+i*5+4))=some m0[i].2:=tk (iS (Ext.refl _ _)) U;have Zy:∀{h' n'},Ext h n h' n'->cD h' false 1 (.p b (0+i*5+3))=some m0[i].1:=λe=>tk (iS e) U;refine aQ ?_;refine θ<|aP U U<|ε ?_;refine ν<|aD U (by simp<;>omega)<|ao ?_;refine ν<|aK<|θ<|γ U<|γ U<|ε ?_;refine wj<|aL U<|aL U<|aL U<|aL U<|aL U<|aL U<|et U U sl ψ<|dG U<|bc U ldk (ρ.below Gy (Γ _)) (ρ.dX Gy)<|cJ U U<|akc hC Gy (by omega) <| λv5 h5 n5 x5 o5 p5=>aL U<|aL U<|et U U sl ψ<|dG U<|bc U (Zy x5) (ρ.below Zw x5.1) (ρ.dX Zw)<|cJ U U<|Xy hC (ρ.ext Zw x5) (by omega) <| λv3 h3 n3 x3 o3 p3=>et U U sl ψ<|dG U<|gH U U ((x3.2 b (by have:=x5.1;omega)).trans ((x5.2 b gz).trans hc)) (akf o5.sl.cells o5.sl.one Zx (by omega)) <| λh6 a6 b6=>et U U sl ψ<|dG U<|gH U U a6 (akg o3.sl.cells o3.sl.one (by simp;omega) (by simp;omega)) <| λh7 a7 b7=>dQ (⟨⟨ak (by simp[Nat.testBit]),ak (by simp[Nat.testBit]),ak (by simp[Nat.testBit]),dJ (Zy (Ext.refl _ _)) (Zy x5),trivial⟩,⟨ak (by simp[Nat.testBit]),ak (by simp[Nat.testBit]),ak (by simp[Nat.testBit]),ak (by simp[Nat.testBit]),trivial⟩,trivial⟩) ?_;have x5:Ext h n h5 n5:=x5;have x3:Ext h5 n5 h3 n3:=x3;have oB:df b h3 h6:=b6;have lZ:df b h6 h7:=b7;have o5:Ow h5 n5 3 1 v5 ts[i].kids.length (eI .i64 ts[i].kids):=o5;have o3:Ow h3 n3 64 2 v3 ts[i].vars.length (px ts[i].vars):=o3;have Gb:h7 b=some (.c (dc ts (((m++m0.drop i).set i (((m++m0.drop i)[i]'(by omega)).1,v5)).set i (v3,(((m++m0.drop i).set i (((m++m0.drop i)[i]'(by omega)).1,v5))[i]'(by simp;omega)).2))) 87 0):=a7;have qK:=x5.1;have lz:=x3.1;have tF:=hx.1;have eY:∀k:K,k.num<n.num->k.num≠b.num->h7 k=h k:=λk h1 h2=>by rw[lZ k h2,oB k h2,x3.2 k (by omega),x5.2 k h1]
  have l5:=ρ.eG o5.sl;have l3:=ρ.eG o3.sl;have f5:v5=.ns\/h7 v5.blk=h5 v5.blk:=by
   rcases l5 with l | l
   ·exact Or.inl l
   ·rcases p5 with p | p
    ·exact Or.inl p
    ·exact Or.inr (by rw[lZ _ (by omega),oB _ (by omega),x3.2 _ l])
  have f3:v3=.ns\/h7 v3.blk=h3 v3.blk:=by
   rcases p3 with p | p
   ·exact Or.inl p
   ·exact Or.inr (by rw[lZ _ (by omega),oB _ (by omega)])
  have xe:Ext h0 n0 h7 n3:=(((hx.trans x5).trans x3).aA oB eJ).aA lZ eJ;have Nc:v5=.ns\/n0.num<=v5.blk.num:=p5.imp id λh=>by omega
  have g3:v3=.ns\/n.num<=v3.blk.num:=p3.imp id λh=>by omega
  have Nf:v3=.ns\/n0.num<=v3.blk.num:=g3.imp id λh=>by omega
  have ro:RO h7 n0 n3 (.sl b 0 ts.length ts.length) ts[i] (v3,v5):=by
   refine⟨ρ.gq o3.sl f3 (Γ _),ρ.gq o5.sl f5 lz,?_,Nc,Nf,?_,?_,?_⟩
   ·rcases o5.ko with g | g
    ·exact Or.inl g
    ·rcases f5 with f | f
     ·have:=g.1;rw[f]at this;cases this
     ·exact Or.inr ⟨g.1,by rw[f];exact g.2⟩
   ·exact(dh.of l5 (p3.imp id λh=>by omega)).symm
   ·exact(dh.of (a:=.sl b 0 ts.length ts.length) (n:=n) (Or.inr gz) g3).symm
   ·exact(dh.of (a:=.sl b 0 ts.length ts.length) (n:=n) (Or.inr gz) p5).symm
  have Gi:ts.take (i+1)=ts.take i++[ts[i]]:=iy ψ;refine aR<|cK U U ⟨by omega,by omega⟩<|γ U<|ε ?_;refine ae (ih (i+1) (m++[(v3,v5)]) h7 n3 (by omega) (by omega) (by simp[hm]) (by omega) xe ?_ ?_ ?_) ⟨rfl,rfl,rfl,trivial⟩
  ·rw[Gb];subst hm;rw[set_drop m m0 KA];simp only[Bt]
  ·rw[Gi];exact dw.app (dw.mono (λx p a=>a.eY (by intro h;cases h) eY (by omega)) fo) ⟨ro,trivial⟩
  ·rw[List.pairwise_append];refine⟨Zv,List.pairwise_singleton _ _,?_⟩;intro p hp q hq;rw[mN]at hq;subst hq;obtain⟨j,hj,rfl⟩:=lB hp;have hr:=fo.get j (by rw[←fo.len];exact hj) hj;have b1:=ρ.eG hr.b;have b2:=ρ.eG hr.k;exact⟨dh.of b2 p5,dh.of b1 p5,dh.of b2 g3⟩
end
theorem Xz(hC:Cd C){t:V}{ts:List Nd}(ht:db h n t ts)(hb:Bd ts)(hQ:∀vo m h' n',Ext h n h' n'->TO h' n n' vo ts m->Q vo h' n'):τ C (.f 119 [] []) [t] h n Q:=by refine τ.go hC.f119 U ?_;obtain⟨m0,tm⟩:=ht;have hs:=tm.2.1;have hlen:=hb.len;refine θ<|γ U<|ε ?_;refine θ<|γ U<|aG U hs<|uX U U (by omega) (by omega) <| λh1 n1 dZ a1 e1=>γ U<|ε ?_;have tD:lM h1 n1 t ts m0:=⟨tm.1,hs.ext e1,λi hi=>⟨(tm.2.2 i hi).1.ext e1,(tm.2.2 i hi).2.ext e1⟩⟩;refine θ<|γ U<|γ U<|RX U a1 (xR _ _) U (hs.ext e1) (akh (λp hp=>by obtain⟨j,hj,rfl⟩:=lB hp;exact⟨(tm.2.2 j (by rw[←tm.1];exact hj)).1.one,(tm.2.2 j (by rw[←tm.1];exact hj)).2.one⟩)) <| λh2 a2 b2=>ε ?_;have AQ:df n h1 h2:=b2;refine ν<|θ<|γ U<|aG U (ρ.whole (n:=n1) (by omega) a2 (wm tm.1))<|γ U<|ε ?_;refine aK<|ae (aki (b:=n) hC tm hb (Γ _) ?_ _ 0 [] h2 n1 rfl (by omega) U (by omega) (e1.aA AQ (Γ _)) (by simpa using a2) trivial List.Pairwise.nil) ⟨rfl,rfl,rfl,trivial⟩;intro m h3 n3 E3 e3 C4 s3;refine dB s3 ?_;refine θ<|γ U<|γ U<|ε (aj ⟨_,rfl,hQ _ m h3 n3 e3 C4⟩)
end
section
variable {C:Nat->Option bP}{h:Hf}{n:K}{Q:V->Hf->K->Prop}
section
variable {h0:Hf}{lo n0:K}{f:Nat}{t0:List Nd}{v:V}{m:List (V×V)}
theorem akj(hlen:t0.length<100000)(hf:f<100000)(eU:∀i (hi:i<t0.length),t0[i].kids.length<1000000)(j7:∀i (hi:i<t0.length),∀k∈t0[i].kids,0<=k/\k<1000000){i:Nat}(hi:i<t0.length)(fV:n0.num<=lo.num){Q1:Ex->Env->Hf->K->Prop}
 {L:Nat}(hQ:∀us h E',Ext h0 n0 h n->TO h lo n v us m->nF (λx=>x - (f:Int)) t0 us (i+1) 0->da [(k5,.i .i64 (f:Nat)),(k6,v),(bf,.i .i64 (L:Nat)),(bk,.i .i64 (i:Nat))] E'->Q1 .normal E' h n):
 ∀(r k:Nat) (us:List Nd) (h:Hf),t0[i].kids.length - k=r->k<=t0[i].kids.length->Ext h0 n0 h n->TO h lo n v us m->nF (λx=>x - (f:Int)) t0 us i k->WC C UY [(k5,.i .i64 (f:Nat)),(k6,v),(bf,.i .i64 (L:Nat)),(bk,.i .i64 (i:Nat)),(k7,.i .i64 (i:Nat)),(bY,.i .i64 (t0[i].kids.length:Nat)),(cj,.i .i64 (k:Nat))] h n (blk 2 Q1):=by
 intro r
 induction r with
 | zero=>
  intro k us h hr hk he eE hc;have gD:k=t0[i].kids.length:=by omega
  subst gD;have iu:i<us.length:=by rw[hc.len];exact hi
  obtain⟨cs,hs⟩:=(show db h n v us from⟨m,eE.tm⟩).sl;obtain⟨vv,kv,hx⟩:=(show db h n v us from⟨m,eE.tm⟩).node iu;have hl:us[i].kids.length=t0[i].kids.length:=by rw[hc.at_ iu hi];exact AN _ _ _
  have FX:=hx.kids;refine aQ ?_;refine θ<|aP U U<|ε ?_;exact ν<|aE U (by simp)<|bW (hQ us h _ he eE (nF.next (by rw[gP hi];exact hc)) ⟨rfl,rfl,rfl,rfl,trivial⟩)
 | succ r ih=>
  intro k us h hr hk he eE hc;have ψ:k<t0[i].kids.length:=by omega
  have iu:i<us.length:=by rw[hc.len];exact hi
  have xl:i<m.length:=by rw[eE.rows.len];exact iu
  obtain⟨cs,hs⟩:=(show db h n v us from⟨m,eE.tm⟩).sl;have fo:=eE.rows.get i iu xl;have sY:=eE.sl;have hl:us[i].kids.length=t0[i].kids.length:=by rw[hc.at_ iu hi];exact AN _ _ _
  have kV:k<us[i].kids.length:=by omega
  have iS:cD h true 5 (.p v.blk (v.off+i*5))=some (.a (dT us[i] m[i].1 m[i].2)):=by have:=sY.nO (i:=i*5) (sz:=5) (by omega) (by omega);rw[wo eE.rows.len iu]at this;exact this
  have nw:cD h false 1 (.p v.blk (v.off+i*5+4))=some m[i].2:=tk iS rfl;have hg:=fo.k.get kV 1;have m6:us[i].kids[k]=t0[i].kids[k]:=by
   have e:=hc.at_ iu hi;have:us[i].kids=shl (λx=>x - (f:Int)) k t0[i].kids:=by rw[e];rfl
   simp only[this];exact Nj ψ
  rw[m6]at hg;have Nl:=j7 i hi t0[i].kids[k] (dU _);have wU:=eU i hi;have bC:m[i].2≠.ns:=by
   intro h;have:=fo.k;rw[h]at this;rcases this.2 with g | ⟨⟨b,o,c,g,_⟩,_⟩
   ·have:=g.2;omega
   ·rcases g with g | g
    ·cases g.1
    ·cases g
  have jH:m[i].2=.su m[i].2.blk 0 us[i].kids.length 1/\h m[i].2.blk=some (.c (eI .i64 us[i].kids) 3 0):=by
   rcases fo.ko with g | g
   ·simp[g]at kV
   ·exact g
  have Nm:n0.num<=m[i].2.blk.num:=by
   rcases fo.kr with g | g
   ·exact absurd g bC
   ·omega
  have E9:m[i].2.off=0:=by rw[jH.1];rfl
  refine aQ ?_;refine θ<|aP U U<|ε ?_;refine ν<|aD U (by simp<;>omega)<|ao ?_;refine ν<|aK<|θ<|γ U<|γ U<|ε ?_;refine aR<|γ U<|γ U<|bh U U hs iu<|Ω U<|χ U nw<|γ U<|bh U U fo.k kV<|χ U hg<|γ U<|jg U U ⟨by omega,by omega⟩<|bh U U fo.k kV<|ct U U jH.2 (Ck (i:=k) kV _ (by rw[E9];omega)) <| λh1 a1 b1=>ε ?_;have Fa:df m[i].2.blk h h1:=b1;have Gj:h1 m[i].2.blk=some (.c (eI .i64 (us[i].kids.set k (t0[i].kids[k] - f))) 3 0):=a1;refine aR<|cK U U ⟨by omega,by omega⟩<|γ U<|ε ?_;exact ae (ih (k+1) _ h1 (by omega) (by omega) (he.aA Fa Nm) (eE.Ni iu xl kV Fa Gj) (hc.set iu hi ψ)) ⟨rfl,rfl,rfl,rfl,rfl,rfl,rfl,trivial⟩
theorem akk(hlen:t0.length<100000)(hf:f<100000)(eU:∀i (hi:i<t0.length),t0[i].kids.length<1000000)(j7:∀i (hi:i<t0.length),∀k∈t0[i].kids,0<=k/\k<1000000)(fV:n0.num<=lo.num){Q1:Ex->Env->Hf->K->Prop}
 (hQ:∀h E',Ext h0 n0 h n->TO h lo n v (t0.map (Y6 f)) m->da [(k6,v)] E'->Q1 .normal E' h n):
 ∀(r i:Nat) (us:List Nd) (h:Hf),t0.length - i=r->i<=t0.length->Ext h0 n0 h n->TO h lo n v us m->nF (λx=>x - (f:Int)) t0 us i 0->WC C UZ [(k5,.i .i64 (f:Nat)),(k6,v),(bf,.i .i64 (t0.length:Nat)),(bk,.i .i64 (i:Nat))] h n (blk 0 Q1):=by
 intro r
 induction r with
 | zero=>
  intro i us h hr hi he eE hc;have:i=t0.length:=by omega
  subst this;obtain⟨cs,hs⟩:=(show db h n v us from⟨m,eE.tm⟩).sl;have iV:=hc.len;refine aQ ?_;refine θ<|aP U U<|ε ?_;exact ν<|aE U (by simp)<|bW (hQ h _ he (by have e:=hc.done;subst e;exact eE) ⟨rfl,trivial⟩)
 | succ r ih=>
  intro i us h hr hi he eE hc;obtain⟨cs,hs⟩:=(show db h n v us from⟨m,eE.tm⟩).sl;have iV:=hc.len;have ψ:i<t0.length:=by omega
  have iu:i<us.length:=by rw[hc.len];exact ψ
  obtain⟨vv,kv,hx⟩:=(show db h n v us from⟨m,eE.tm⟩).node iu;have hl:us[i].kids.length=t0[i].kids.length:=by rw[hc.at_ iu ψ];exact AN _ _ _
  refine aQ ?_;refine θ<|aP U U<|ε ?_;refine ν<|aD U (by simp<;>omega)<|ao ?_;refine ν<|aK<|θ<|γ U<|γ U<|ε ?_;refine θ<|γ U<|γ U<|bh U U hs iu<|Ω U<|χ U (hx.ks _)<|aG U hx.kids<|γ U<|ε ?_;rw[hl];refine aK<|ae (akj hlen hf eU j7 ψ fV ?_ _ 0 us h rfl (by omega) he eE hc) ⟨rfl,rfl,rfl,rfl,rfl,rfl,rfl,trivial⟩;intro Y7 h1 E1 e1 AM c1 s1;refine dB s1 ?_;refine aR<|cK U U ⟨by omega,by omega⟩<|γ U<|ε ?_;exact ae (ih (i+1) Y7 h1 (by omega) (by omega) e1 AM c1) ⟨rfl,rfl,rfl,rfl,trivial⟩
end
theorem w69(hC:Cd C){t:V}{ts:List Nd}{i:Nat}(ht:db h n t ts)(hb:Bd ts)(hi:i<ts.length)(ho:∀j,j<ts.length->ord ts j=true)
 (hQ:∀v' h' n',Ext h n h' n'->TG h' n n' v' (part ts i)->Q v' h' n'):τ C (.f 69 [] []) [t,.i .i64 (i:Nat)] h n Q:=by
 refine τ.go hC.f69 U ?_;have hlen:=hb.len;have vG:=Cg ts i;obtain⟨cs,hs⟩:=ht.sl;refine θ<|γ U<|ε ?_;refine θ<|γ U<|γ U<|al U U<|ME hC.f102 ht (by omega) hi (λj hj=>ho j (by omega))<|γ U<|ε ?_;generalize hf:fs ts i=f at*;refine θ<|γ U<|γ U<|γ U<|kp U U (show(i:Int)+1=((i+1:Nat):Int) from rfl) ⟨by omega,by omega⟩<|HX U hs U U ((show f<=i+1 by omega)) ((show i+1<=ts.length by omega)) <| λv2 i2 l2=>al U U<|Xz hC (db.sub ht (by omega) hs i2) (hb.sub _ _) <| λvo m h3 n3 e3 C4=>γ U<|ε ?_;have hL:((ts.drop f).take (i+1 - f)).length=i+1 - f:=by simp;omega
 have jO:=hb.sub f (i+1 - f);have j7:∀q (hq:q<((ts.drop f).take (i+1 - f)).length),∀k∈((ts.drop f).take (i+1 - f))[q].kids,0<=k/\k<1000000:=by
  intro q hq k hk;have e:((ts.drop f).take (i+1 - f))[q]=ts[f+q]'(by omega):=by simp
  rw[e]at hk;have:=EY (by omega) (ho (f+q) (by omega)) k hk;omega
 refine ν<|θ<|γ U<|aG U C4.sl<|γ U<|ε ?_;refine aK<|ae (akk (h0:=h) (n0:=n) (lo:=n) jO.len (by omega) jO.qg j7 (Γ _) ?_ _ 0 _ h3 rfl (by omega) e3 C4 (nF.start _ _)) ⟨rfl,rfl,rfl,rfl,trivial⟩;intro h4 E4 e4 JK s4;refine dB s4 ?_;refine θ<|γ U<|γ U<|ε (aj ⟨_,rfl,hQ vo h4 n3 e4 (by unfold part;rw[hf];exact JK.tg (Γ _))⟩)
end
section
variable {C:Nat->Option bP}{h:Hf}{n:K}{Q:V->Hf->K->Prop}
theorem dh.eY{h h':Hf}{n:K}{w v:V}(h1:w=.ns\/w.blk.num<n.num)(h2:dh w v)(hs:∀k:K,k.num<n.num->(v=.ns\/k.num≠v.blk.num)->h' k=h k):w=.ns\/h' w.blk=h w.blk:=by
 rcases h1 with l | l
 ·exact Or.inl l
 ·rcases h2 with g | g | g
  ·exact Or.inl g
  ·exact Or.inr (hs _ l (Or.inl g))
  ·exact Or.inr (hs _ l (Or.inr g))
def RG(h:Hf)(n:K)(v:V)(x:Nd)(p:V×V):Prop:=fC h n p.1 x.vars/\gh h n .i64 p.2 x.kids/\dh p.1 v/\dh p.2 v
theorem RG.to{h h':Hf}{n:K}{v v':V}{x:Nd}{p:V×V}(a:RG h n v x p)(hs:∀k:K,k.num<n.num->(v=.ns\/k.num≠v.blk.num)->h' k=h k)(hv:v'=v\/n.num<=v'.blk.num):RG h' n v' x p:=by
 have l1:=ρ.eG a.1;have l2:=ρ.eG a.2.1;refine⟨ρ.gq a.1 (dh.eY l1 a.2.2.1 hs) (Γ _),ρ.gq a.2.1 (dh.eY l2 a.2.2.2 hs) (Γ _),?_,?_⟩
 ·rcases hv with g | g
  ·rw[g];exact a.2.2.1
  ·exact dh.of l1 (Or.inr g)
 ·rcases hv with g | g
  ·rw[g];exact a.2.2.2
  ·exact dh.of l2 (Or.inr g)
theorem RG.up{h:Hf}{n n':K}{v:V}{x:Nd}{p:V×V}(a:RG h n v x p)(hn:n.num<=n'.num):RG h n' v x p:=⟨ρ.up a.1 hn,ρ.up a.2.1 hn,a.2.2⟩
theorem TO.on{h h':Hf}{lo n:K}{v:V}{us:List Nd}{m:List (V×V)}(a:TO h lo n v us m)(hs:∀k:K,lo.num<=k.num->k.num<n.num->h' k=h k):TO h' lo n v us m:=by
 have key:∀{w:V},(w=.ns\/w.blk.num<n.num)->(w=.ns\/lo.num<=w.blk.num)->w=.ns\/h' w.blk=h w.blk:=by
  intro w h1 h2;rcases h1 with g | g
  ·exact Or.inl g
  ·rcases h2 with k | k
   ·exact Or.inl k
   ·exact Or.inr (hs _ k g)
 refine⟨ρ.gq a.sl (key (ρ.eG a.sl) a.ge) (Γ _),dw.mono (λx p r=>?_) a.rows,a.pw,a.ge⟩;have e1:=key (ρ.eG r.b) r.vr;have e2:=key (ρ.eG r.k) r.kr;refine⟨ρ.gq r.b e1 (Γ _),ρ.gq r.k e2 (Γ _),?_,r.kr,r.vr,r.vk,r.vt,r.kt⟩;rcases r.ko with g | g
 ·exact Or.inl g
 ·rcases e2 with e | e
  ·have:=g.1;rw[e]at this;cases this
  ·exact Or.inr ⟨g.1,by rw[e];exact g.2⟩
section
variable {h0 hS:Hf}{lo n0 n1:K}{f:Nat}{ts us:List Nd}{v vc vo:V}{mc mo:List (V×V)}
theorem akl(hlen:ts.length<100000)(hf:f<1000000)(eU:∀i (hi:i<ts.length),ts[i].kids.length<1000000)(j7:∀i (hi:i<ts.length),∀k∈ts[i].kids,0<=k/\k<1000000){i:Nat}(hi:i<ts.length)(JW:mc.length=ts.length){b:K}(hb:n1.num<=b.num){Q1:Ex->Env->Hf->K->Prop}{L:Nat}{hI:Hf}
 (NQ:hI b=some (.c (dT ts[i] (mc[i]'(by omega)).1 (mc[i]'(by omega)).2) 87 0))
 (hQ:∀uc h E',(∀k:K,((mc[i]'(by omega)).2=.ns\/k.num≠(mc[i]'(by omega)).2.blk.num)->h k=hI k)->TO h lo n1 vc uc mc->nF (λx=>x+(f:Int)) ts uc (i+1) 0->da [(k0,v),(k5,.i .i64 (f:Nat)),(aN,vc),(aO,.i .i64 (L:Nat)),(aT,.i .i64 (i:Nat)),(k7,.p b 0)] E'->Q1 .normal E' h n):
 ∀(r k:Nat) (uc:List Nd) (h:Hf),ts[i].kids.length - k=r->k<=ts[i].kids.length->(∀k:K,((mc[i]'(by omega)).2=.ns\/k.num≠(mc[i]'(by omega)).2.blk.num)->h k=hI k)->TO h lo n1 vc uc mc->nF (λx=>x+(f:Int)) ts uc i k->WC C UA [(k0,v),(k5,.i .i64 (f:Nat)),(aN,vc),(aO,.i .i64 (L:Nat)),(aT,.i .i64 (i:Nat)),(k7,.p b 0),(bk,.i .i64 (ts[i].kids.length:Nat)),(bp,.i .i64 (k:Nat))] h n (blk 2 Q1):=by
 intro r
 induction r with
 | zero=>
  intro k uc h hr hk he eE hc;have gD:k=ts[i].kids.length:=by omega
  subst gD;refine aQ ?_;refine θ<|aP U U<|ε ?_;exact ν<|aE U (by simp)<|bW (hQ uc h _ he eE (nF.next (by rw[gP hi];exact hc)) ⟨rfl,rfl,rfl,rfl,rfl,rfl,trivial⟩)
 | succ r ih=>
  intro k uc h hr hk he eE hc;have ψ:k<ts[i].kids.length:=by omega
  have iu:i<uc.length:=by rw[hc.len];exact hi
  have xl:i<mc.length:=by omega
  have fo:=eE.rows.get i iu xl;have hl:uc[i].kids.length=ts[i].kids.length:=by rw[hc.at_ iu hi];exact AN _ _ _
  have kV:k<uc[i].kids.length:=by omega
  have hg:=fo.k.get kV 1;have m6:uc[i].kids[k]=ts[i].kids[k]:=by
   have e:=hc.at_ iu hi;have:uc[i].kids=shl (λx=>x+(f:Int)) k ts[i].kids:=by rw[e];rfl
   simp only[this];exact Nj ψ
  rw[m6]at hg;have Nl:=j7 i hi ts[i].kids[k] (dU _);have wU:=eU i hi;have jH:mc[i].2=.su mc[i].2.blk 0 uc[i].kids.length 1/\h mc[i].2.blk=some (.c (eI .i64 uc[i].kids) 3 0):=by
   rcases fo.ko with g | g
   ·simp[g]at kV
   ·exact g
  have OO:mc[i].2.blk.num<n1.num:=by
   rcases ρ.eG fo.k with g | g
   ·rw[g]at jH;cases jH.1
   ·exact g
  have E9:mc[i].2.off=0:=by rw[jH.1];rfl
  have akm:=(he b (Or.inr (by omega))).trans NQ;refine aQ ?_;refine θ<|aP U U<|ε ?_;refine ν<|aD U (by simp<;>omega)<|ao ?_;refine ν<|aK<|θ<|γ U<|γ U<|ε ?_;refine aR<|Ω U<|χ U (dV akm rfl _)<|γ U<|bh U U fo.k kV<|χ U hg<|γ U<|cK U U ⟨by omega,by omega⟩<|bh U U fo.k kV<|ct U U jH.2 (Ck (i:=k) kV _ (by rw[E9];omega)) <| λh1 a1 b1=>ε ?_;have Fa:df mc[i].2.blk h h1:=b1;have Gj:h1 mc[i].2.blk=some (.c (eI .i64 (uc[i].kids.set k (ts[i].kids[k]+f))) 3 0):=a1;refine aR<|cK U U ⟨by omega,by omega⟩<|γ U<|ε ?_;exact ae (ih (k+1) _ h1 (by omega) (by omega) (λq hq=>(Fa q (hq.resolve_left (by rw[jH.1];intro h;cases h))).trans (he q hq)) (eE.Ni iu xl kV Fa Gj) (hc.set iu hi ψ)) ⟨rfl,rfl,rfl,rfl,rfl,rfl,rfl,rfl,trivial⟩
theorem akn(hlen:ts.length<100000)(hf:us.length=f)(Nw:f<1000000)(eU:∀i (hi:i<ts.length),ts[i].kids.length<1000000)(j7:∀i (hi:i<ts.length),∀k∈ts[i].kids,0<=k/\k<1000000)(JW:mc.length=ts.length)(hmo:mo.length=us.length)
 (fV:n0.num<=lo.num)(dZ:lo.num<=n1.num)(hvo:vo=.ns\/vo.blk.num<lo.num){Q1:Ex->Env->Hf->K->Prop}
 (hQ:∀v h n E',Gr h0 n0 h n 87 5 v (us.length+ts.length) (dc (us++ts.map (jD λx=>x+(f:Int))) (mo++mc))->(v=vo\/n1.num<=v.blk.num)->dw (RG h lo v) us mo->TO h lo n1 vc (ts.map (jD λx=>x+(f:Int))) mc->n1.num<=n.num->(∀k:K,k.num<lo.num->(vo=.ns\/k.num≠vo.blk.num)->h k=hS k)->da [(k0,v)] E'->Q1 .normal E' h n):
 ∀(r i:Nat) (v:V) (uc:List Nd) (h:Hf) (n:K),ts.length - i=r->i<=ts.length->n1.num<=n.num->Gr h0 n0 h n 87 5 v (us.length+i) (dc (us++(ts.take i).map (jD λx=>x+(f:Int))) (mo++mc.take i))->(v=vo\/n1.num<=v.blk.num)->dw (RG h lo v) us mo->TO h lo n1 vc uc mc->nF (λx=>x+(f:Int)) ts uc i 0->(∀k:K,k.num<lo.num->(vo=.ns\/k.num≠vo.blk.num)->h k=hS k)->WC C UB [(k0,v),(k5,.i .i64 (f:Nat)),(aN,vc),(aO,.i .i64 (ts.length:Nat)),(aT,.i .i64 (i:Nat))] h n (blk 0 Q1):=by
 intro r
 induction r with
 | zero=>
  intro i v uc h n hr hi oJ hg hv fo eE hc hS;have:i=ts.length:=by omega
  subst this;rw[fO,pF (by omega)]at hg;have e:=hc.done;subst e;refine aQ ?_;refine θ<|aP U U<|ε ?_;exact ν<|aE U (by simp)<|bW (hQ v h n _ hg hv fo eE oJ hS ⟨rfl,trivial⟩)
 | succ r ih=>
  intro i v uc h n hr hi oJ hg hv fo eE hc hS;have ψ:i<ts.length:=by omega
  have iu:i<uc.length:=by rw[hc.len];exact ψ
  have xl:i<mc.length:=by omega
  have DX:=eE.rows.get i iu xl;have ec:uc[i]=ts[i]:=by rw[hc.at_ iu ψ,Nk];rfl
  have iS:cD h true 5 (.p vc.blk (vc.off+i*5))=some (.a (dT ts[i] mc[i].1 mc[i].2)):=by have:=eE.sl.nO (i:=i*5) (sz:=5) (by omega) (by omega);rw[wo eE.rows.len iu,ec]at this;exact this
  have eF:=kU ts[i] (ρ.one DX.b) (ρ.one DX.k);have wU:=eU i ψ;refine aQ ?_;refine θ<|aP U U<|ε ?_;refine ν<|aD U (by simp<;>omega)<|ao ?_;refine ν<|aK<|θ<|bh U U eE.sl iu<|χ U iS<|ea <| λh2 n2 fB a2 e2=>ct U U a2 (ff rfl rfl eF) <| λh3 a3 b3=>ε ?_;have wT:df n h2 h3:=b3;have x3:Ext h n h3 n2:=e2.aA wT (Γ _);have MW:h3 n=some (.c (dT ts[i] mc[i].1 mc[i].2) 87 0):=a3;have C4:TO h3 lo n1 vc uc mc:=eE.on λk _ h2=>x3.2 k (by omega);have Gg:=(C4.rows.get i iu xl).k;rw[ec]at Gg;have g3:=hg.on x3;have Gz:dw (RG h3 lo v) us mo:=dw.mono (λx p a=>a.to (λk h1 _=>x3.2 k (by omega)) (Or.inl U)) fo;refine ν<|θ<|Ω U<|χ U (dV MW rfl _)<|aG U Gg<|γ U<|ε ?_;refine aK<|ae (akl (L:=ts.length) (b:=n) (hI:=h3) hlen Nw eU j7 ψ JW oJ MW ?_ _ 0 uc h3 rfl (by omega) (λ_ _=>rfl) C4 hc) ⟨rfl,rfl,rfl,rfl,rfl,rfl,rfl,rfl,trivial⟩;intro uc4 h4 E4 b4 JK c4 s4;refine dB s4 ?_;have Pk:=JK.rows.get i (by rw[c4.len];exact ψ) xl;have akp:mc[i].2=.ns\/(lo.num<=mc[i].2.blk.num/\mc[i].2.blk.num<n1.num):=by
   rcases Pk.kr with g | g
   ·exact Or.inl g
   ·exact(ρ.eG Pk.k).imp id λk=>⟨g,k⟩
  have kq:∀k:K,(k.num<lo.num\/n1.num<=k.num)->h4 k=h3 k:=λk hk=>b4 k (akp.imp id λg=>by omega);have Gm:v=.ns\/(v.blk.num<lo.num\/n1.num<=v.blk.num):=by
   rcases hv with g | g
   ·rw[g];exact hvo.imp id Or.inl
   ·exact Or.inr (Or.inr g)
  have g4:Gr h0 n0 h4 n2 87 5 v (us.length+i) (dc (us++(ts.take i).map (jD λx=>x+(f:Int))) (mo++mc.take i)):=
   ⟨⟨g3.ext.1,λk hk=>by rw[kq k (Or.inl (by omega)),g3.ext.2 k hk]⟩,g3.own.ext (Gm.imp id λg=>kq _ g),g3.at_⟩
  have a4:=(kq n (Or.inr oJ)).trans MW;have n02:=x3.1;refine aR<|γ U<|χ U (cz a4 (oM rfl))<|fx (Cr rfl eF rfl) <| λh6 n6 pz a6 x6=>jK U ((g4.on x6).own) U (ρ.whole (len:=1) (by omega) a6 rfl) (by omega) (by omega) (by omega) (by omega) eF ((g4.on x6).lt) <| λv8 h8 n8 o8 q8 mJ s8=>γ U<|ε ?_;have g8:=(g4.on x6).app o8 q8 mJ s8;have n06:=x6.1;have M9:dc (us++(ts.take i).map (jD λx=>x+(f:Int))) (mo++mc.take i)++dT ts[i] mc[i].1 mc[i].2=dc (us++(ts.take (i+1)).map (jD λx=>x+(f:Int))) (mo++mc.take (i+1)):=by rw[iy ψ,iy xl,List.map_append,←uF,←uF];exact(xX (by simp;omega) [jD (λx=>x+(f:Int)) ts[i]] [mc[i]]).symm
  rw[M9]at g8;have m8:∀k:K,k.num<n1.num->(v=.ns\/k.num≠v.blk.num)->h8 k=h4 k:=λk h1 h2=>by rw[s8 k (by omega) h2,x6.2 k (by omega)]
  refine aR<|cK U U ⟨by omega,by omega⟩<|γ U<|ε ?_;refine ae (ih (i+1) v8 uc4 h8 n8 (by omega) (by omega) (by omega) g8 (Or.inr (by rw[q8];omega)) (dw.mono (λx p a=>a.to (λk h1 h2=>by rw[m8 k (by omega) h2,kq k (Or.inl h1)]) (Or.inr (by rw[q8];omega))) Gz) (JK.on λk h1 h2=>m8 k h2 (Gm.imp id λg=>by omega)) c4 λk h1 h2=>?_) ⟨rfl,rfl,rfl,rfl,rfl,trivial⟩;rw[m8 k (by omega) (hv.elim (λg=>by rw[g];exact h2) (λg=>Or.inr (by omega))),kq k (Or.inl h1),x3.2 k (by omega),hS k h1 h2]
end
theorem akq(hC:Cd C){h0:Hf}{n0:K}{vo t:V}{us ts:List Nd}{mo:List (V×V)}(hg:Gr h0 n0 h n 87 5 vo us.length (dc us mo))(fo:dw (RG h n vo) us mo)(FC:us.length<1000000)(ht:db h n t ts)(hb:Bd ts)(j7:∀i (hi:i<ts.length),∀k∈ts[i].kids,0<=k/\k<1000000)
 (hQ:∀v' mc h' n',n.num<=n'.num->Gr h0 n0 h' n' 87 5 v' (us++ts.map (jD λx=>x+(us.length:Int))).length (dc (us++ts.map (jD λx=>x+(us.length:Int))) (mo++mc))->dw (RG h' n' v') (us++ts.map (jD λx=>x+(us.length:Int))) (mo++mc)->(∀k:K,k.num<n.num->(vo=.ns\/k.num≠vo.blk.num)->h' k=h k)->(v'=vo\/n.num<=v'.blk.num)->(∀p∈mc,(p.1=.ns\/n.num<=p.1.blk.num)/\(p.2=.ns\/n.num<=p.2.blk.num))->Q v' h' n'):τ C (.f 140 [] []) [vo,t] h n Q:=by
 refine τ.go hC.f140 U ?_;have hlen:=hb.len;refine θ<|γ U<|ε ?_;refine θ<|γ U<|aG U hg.sl<|γ U<|ε ?_;refine ν<|θ<|γ U<|al U U<|Xz hC ht hb <| λvc mc h1 n1 e1 AM=>aG U AM.sl<|γ U<|ε ?_;have DT:=AM.rows.len;have g1:=hg.on e1;have ro1:dw (RG h1 n vo) us mo:=dw.mono (λx p a=>a.to (λk h1 _=>e1.2 k h1) (Or.inl U)) fo;refine aK<|ae (akn (hS:=h) (lo:=n) (n1:=n1) hlen rfl FC hb.qg j7 DT fo.len hg.ext.1 e1.1 hg.lt ?_ _ 0 vo ts h1 n1 rfl (by omega) (Γ _) (by simpa using g1) (Or.inl U) ro1 AM (nF.start _ _) (λk h1 _=>e1.2 k h1)) ⟨rfl,rfl,rfl,rfl,rfl,trivial⟩;intro v h2 n2 E2 g2 iG C6 Zz fB hS2 s2;refine dB s2 ?_;have dZ:=e1.1;refine θ<|γ U<|γ U<|ε (aj ⟨_,rfl,hQ v mc h2 n2 (by omega) (by simpa using g2) ?_ hS2 (iG.imp id λg=>by omega) λp hp=>?_⟩)
 rotate_left
 ·obtain⟨j,hj,rfl⟩:=lB hp;have:=Zz.rows.get j (by rw[←Zz.rows.len];exact hj) hj;exact⟨this.vr,this.kr⟩
 refine dw.app (dw.mono (λx p a=>a.up (by omega)) C6) (dw.mono (λx p a=>⟨ρ.up a.b fB,ρ.up a.k fB,?_,?_⟩) Zz.rows)
 ·rcases iG with g | g
  ·rw[g];exact(dh.of hg.lt a.vr).symm
  ·exact dh.of (ρ.eG a.b) (Or.inr g)
 ·rcases iG with g | g
  ·rw[g];exact(dh.of hg.lt a.kr).symm
  ·exact dh.of (ρ.eG a.k) (Or.inr g)
end
section
variable {C:Nat->Option bP}{h:Hf}{n:K}{Q:V->Hf->K->Prop}
def pC(s:List Nd×List Int)(t:List Nd):List Nd×List Int:=
 (s.1++t.map (jD λx=>x+(s.1.length:Int)),s.2++[((s.1.length+t.length:Nat):Int) - 1])
def fg(l:List (List Nd)):List Nd×List Int:=l.foldl pC ([],[])
def rY(x:Nd)(l:List (List Nd)):List Nd:=(fg l).1++[wk x (fg l).2]
def lens:List (List Nd)->Nat
 | []=>0
 | t::l=>t.length+lens l
theorem yU{l:List (List Nd)}{i:Nat}(hi:i<l.length):fg (l.take (i+1))=pC (fg (l.take i)) l[i]:=by show(l.take (i+1)).foldl pC _=_;rw[iy hi,List.foldl_append];rfl
theorem akr:∀(l:List (List Nd)) (s:List Nd×List Int),(l.foldl pC s).1.length=s.1.length+lens l/\(l.foldl pC s).2.length=s.2.length+l.length:=by
 intro l
 induction l with
 | nil=>intro s;simp[lens]
 | cons t l ih=>
  intro s;have h1:=ih (pC s t);have h2:(pC s t).1.length=s.1.length+t.length:=by simp[pC]
  have h3:(pC s t).2.length=s.2.length+1:=by simp[pC]
  refine⟨h1.1.trans ?_,h1.2.trans ?_⟩
  ·rw[h2];simp only[lens];omega
  ·rw[h3];simp only[fG];omega
theorem qQ(l:List (List Nd)):(fg l).1.length=lens l/\(fg l).2.length=l.length:=by have:=akr l ([],[]);simpa[fg]using this
theorem IV:∀(l:List (List Nd)) (i:Nat),lens (l.take i)<=lens l:=by
 intro l
 induction l with
 | nil=>intro i;simp
 | cons t l ih=>intro i;cases i with | zero=>simp[lens] | succ i=>have:=ih i;simp[lens];omega
structure Kd(l:List (List Nd)):Prop where
 len:l.length<100000
 sum:lens l<1000000
 bd:∀i (hi:i<l.length),Bd l[i]
 kr:∀i (hi:i<l.length),∀j (hj:j<l[i].length),∀k∈l[i][j].kids,0<=k/\k<1000000
section
variable {h0 h1:Hf}{n0 n1:K}{vt:V}{l:List (List Nd)}{x:Nd}{vv:V}
theorem gU.get{h:Hf}{n:K}{v:V}{l:List (List Nd)}(a:gU h n v l){i:Nat}(hi:i<l.length):∃w,cD h false 1 (.p v.blk (v.off+i*1))=some w/\db h n w l[i]:=by obtain⟨hs,h1,h2,h3⟩:=a;exact⟨hs[i]'(by omega),h2.get (by rw[ka];exact Nn (by omega)) 1,h3 i (by omega) hi⟩
theorem gU.sl{h:Hf}{n:K}{v:V}{l:List (List Nd)}(a:gU h n v l):∃hs,ρ h n 1 v l.length hs:=⟨a.choose,a.choose_spec.2.1⟩
theorem dw.and{P:Nd->V×V->Prop}{P':V×V->Prop}:∀{ts:List Nd} {m:List (V×V)},dw P ts m->(∀p∈m,P' p)->dw (λx p=>P x p/\P' p) ts m:=by
 intro ts
 induction ts with
 | nil=>intro m h _;cases m with | nil=>trivial | cons=>exact h.elim
 | cons x ts ih=>intro m h g;cases m with | nil=>exact h.elim | cons p m=>exact⟨⟨h.1,g p (by simp)⟩,ih h.2 λq hq=>g q (by simp[hq])⟩
def PK(kk:V)(b:K)(p:V×V):Prop:=(dh p.1 kk/\dh p.2 kk)/\(p.1=.ns\/b.num<p.1.blk.num)/\(p.2=.ns\/b.num<p.2.blk.num)
theorem aks(hC:Cd C)(hk:Kd l)(ψ:gU h0 n0 vt l){Q1:Ex->Env->Hf->K->Prop}
 (hQ:∀v kk m h n E',n0.num<n.num->Gr h0 n0 h n 87 5 v (fg l).1.length (dc (fg l).1 m)->dw (RG h n v) (fg l).1 m->Gr h0 n0 h n 3 1 kk (fg l).2.length (eI .i64 (fg l).2)->(v=.ns\/n0.num<v.blk.num)->(kk=.ns\/n0.num<kk.blk.num)->dh kk v->(∀p∈m,PK kk n0 p)->h n0=some (.c (dT x vv kk) 87 0)->da [(k2,.p n0 0),(k5,v)] E'->Q1 .normal E' h n):
 ∀(r i:Nat) (v kk:V) (m:List (V×V)) (h:Hf) (n:K),l.length - i=r->i<=l.length->n0.num<n.num->Gr h0 n0 h n 87 5 v (fg (l.take i)).1.length (dc (fg (l.take i)).1 m)->dw (RG h n v) (fg (l.take i)).1 m->Gr h0 n0 h n 3 1 kk i (eI .i64 (fg (l.take i)).2)->(v=.ns\/n0.num<v.blk.num)->(kk=.ns\/n0.num<kk.blk.num)->dh kk v->(∀p∈m,PK kk n0 p)->h n0=some (.c (dT x vv kk) 87 0)->WC C Uz [(k2,.p n0 0),(k5,v),(k9,vt),(aF,.i .i64 (l.length:Nat)),(aH,.i .i64 (i:Nat))] h n (blk 0 Q1):=by
 have oA:=hk.len;have NR:=hk.sum;intro r
 induction r with
 | zero=>
  intro i v kk m h n hr hi tM hg fo xm ji uk m6 GB eJ;have:i=l.length:=by omega
  subst this;rw[fO]at hg fo xm;refine aQ ?_;refine θ<|aP U U<|ε ?_;exact ν<|aE U (by simp)<|bW (hQ v kk m h n _ tM hg fo (by rw[(qQ l).2];exact xm) ji uk m6 GB eJ ⟨rfl,rfl,trivial⟩)
 | succ r ih=>
  intro i v kk m h n hr hi tM hg fo xm ji uk m6 GB eJ;have iU:i<l.length:=by omega
  obtain⟨w,hw,tw⟩:=(ψ.ext hg.ext).get iU;obtain⟨cs,hs⟩:=(ψ.ext hg.ext).sl;have JF:=(qQ (l.take i)).1;have eU:=(qQ (l.take i)).2;have htk:=IV l i;have akt:=IV l (i+1);have FD:=(qQ (l.take (i+1))).1;rw[yU iU]at FD;simp only[pC,gX,lC]at FD;have wU:(fg (l.take i)).2.length=i:=by rw[eU];simp;omega
  refine aQ ?_;refine θ<|aP U U<|ε ?_;refine ν<|aD U (by simp<;>omega)<|ao ?_;refine ν<|aK<|θ<|bh U U hs iU<|χ U hw<|γ U<|ε ?_;refine θ<|γ U<|γ U<|al U U<|akq hC hg fo (by omega) tw (hk.bd i iU) (hk.kr i iU) <| λv' mc h2 n2 fB g2 C6 s2 iG NS=>γ U<|ε ?_;have C7:=xm.lt;have NT:h2 n0=some (.c (dT x vv kk) 87 0):=(s2 n0 tM (ji.imp id λg=>by omega)).trans eJ;have ZA:kk=.ns\/h2 kk.blk=h kk.blk:=dh.eY C7 m6 s2;have NU:Gr h0 n0 h2 n2 3 1 kk i (eI .i64 (fg (l.take i)).2):=⟨g2.ext,xm.own.ext ZA,xm.at_.imp id λg=>⟨g.1,by omega⟩⟩;have NV:v'=.ns\/n0.num<v'.blk.num:=by
   rcases iG with g | g
   ·rw[g];exact ji
   ·exact Or.inr (by omega)
  have ZB:dh kk v':=by
   rcases iG with g | g
   ·rw[g];exact m6
   ·exact dh.of C7 (Or.inr g)
  have NW:∀p∈m++mc,PK kk n0 p:=by
   intro p hp;rcases kc.1 hp with g | g
   ·exact GB p g
   ·have:=NS p g;exact⟨⟨(dh.of C7 this.1).symm,(dh.of C7 this.2).symm⟩,this.1.imp id λg=>by omega,this.2.imp id λg=>by omega⟩
  have qi:((fg (l.take i)).1++l[i].map (jD λx=>x+((fg (l.take i)).1.length:Int))).length=(fg (l.take i)).1.length+l[i].length:=by simp
  refine aR<|Ω U<|χ U (dV NT rfl _)<|γ U<|aG U g2.sl<|kQ U U (show(((fg (l.take i)).1++l[i].map (jD λx=>x+((fg (l.take i)).1.length:Int))).length:Int) - 1=(((fg (l.take i)).1.length+l[i].length:Nat):Int) - 1 by rw[qi]) ⟨by omega,by omega⟩<|fx (kT rfl rfl rfl) <| λh3 n3 lz a3 e3=>jK U ((NU.on e3).own) U (ρ.whole (len:=1) (by omega) a3 rfl) (by omega) (by omega) (by omega) (by omega) U ((NU.on e3).lt) <| λv4 h4 n4 o4 q4 nE s4=>Ω U<|ct U U ((s4 n0 (by have:=e3.1;omega) (uk.imp id λg=>by omega)).trans ((e3.2 n0 (by omega)).trans NT)) (AL o4.cells o4.one) <| λh5 a5 b5=>ε ?_;have qh:df n0 h4 h5:=b5;have n23:=e3.1;have m5:∀k:K,k.num<n2.num->k.num≠n0.num->(kk=.ns\/k.num≠kk.blk.num)->h5 k=h2 k:=λk h1 h2 h3=>by rw[qh k h2,s4 k (by omega) h3,e3.2 k h1]
  have eY:∀{w:V},(w=.ns\/w.blk.num<n2.num)->(w=.ns\/n0.num<w.blk.num)->dh kk w->w=.ns\/h5 w.blk=h2 w.blk:=by
   intro w h1 h2 h3;rcases h1 with g | g
   ·exact Or.inl g
   ·rcases h2 with k | k
    ·exact Or.inl k
    ·rcases h3 with e | e | e
     ·exact Or.inr (m5 _ g (by omega) (Or.inl e))
     ·exact Or.inl e
     ·exact Or.inr (m5 _ g (by omega) (Or.inr (Ne.symm e)))
  have x5:Ext h0 n0 h5 n4:=g2.ext.trans' (by omega) λk hk=>m5 k (by omega) (by omega) (uk.imp id λg=>by omega);have g5:Gr h0 n0 h5 n4 87 5 v' ((fg (l.take i)).1++l[i].map (jD λx=>x+((fg (l.take i)).1.length:Int))).length (dc ((fg (l.take i)).1++l[i].map (jD λx=>x+((fg (l.take i)).1.length:Int))) (m++mc)):=
   ⟨x5,g2.own.ext (eY g2.lt NV ZB),g2.at_.imp id λg=>⟨g.1,by omega⟩⟩
  have ZC:dw (RG h5 n4 v') ((fg (l.take i)).1++l[i].map (jD λx=>x+((fg (l.take i)).1.length:Int))) (m++mc):=
   dw.mono (λx p a=>⟨ρ.gq a.1.1 (eY (ρ.eG a.1.1) a.2.2.1 a.2.1.1.symm) (by omega),ρ.gq a.1.2.1 (eY (ρ.eG a.1.2.1) a.2.2.2 a.2.1.2.symm) (by omega),a.1.2.2⟩) (C6.and NW)
  have ZD:Gr h0 n0 h5 n4 3 1 v4 (i+1) (eI .i64 ((fg (l.take i)).2++[(((fg (l.take i)).1.length+l[i].length:Nat):Int) - 1])):=by refine⟨x5,?_,Or.inr ⟨by rw[q4];omega,by rw[q4];omega⟩⟩;rw[Hl];exact o4.ext (Or.inr (qh _ (by rw[q4];omega)))
  have FE:∀{w:V},(w=.ns\/w.blk.num<n2.num)->dh w v4:=λh=>dh.of h (Or.inr (by rw[q4];omega));have ZE:∀p∈m++mc,PK v4 n0 p:=by intro p hp;obtain⟨j,hj,rfl⟩:=lB hp;have hr:=C6.get j (by rw[←C6.len];exact hj) hj;have:=NW _ hp;exact⟨⟨FE (ρ.eG hr.1),FE (ρ.eG hr.2.1)⟩,this.2⟩
  refine aR<|cK U U ⟨by omega,by omega⟩<|γ U<|ε ?_;refine ae (ih (i+1) v' v4 (m++mc) h5 n4 (by omega) (by omega) (by omega) ?_ ?_ ?_ NV (Or.inr (by rw[q4];omega)) (FE g2.lt).symm ZE a5) ⟨rfl,rfl,rfl,rfl,rfl,trivial⟩
  ·rw[yU iU];exact g5
  ·rw[yU iU];exact ZC
  ·rw[yU iU];exact ZD
end
theorem w64(hC:Cd C){vt vv kv:V}{x:Nd}{l:List (List Nd)}(hk:Kd l)(ψ:gU h n vt l)(hv:fC h n vv x.vars)(m6:kv.one=true)(ug:x.vars.length<1000000)
 (hQ:∀v h' n',Ext h n h' n'->TG h' n n' v (rY x l)->Q v h' n'):τ C (.f 64 [] []) [.a (dT x vv kv),vt] h n Q:=by
 refine τ.go hC.f64 U ?_;have eF:=kU x (ρ.one hv) m6;have oA:=hk.len;have NR:=hk.sum;refine θ<|eL U U eF <| λh1 n1 dZ a1 e1=>γ U<|ε ?_;refine θ<|γ U<|ε ?_;refine θ<|Ω U<|ct U U a1 (AL rfl rfl) <| λh2 a2 b2=>ε ?_;have AQ:df n h1 h2:=b2;have x2:Ext h n h2 n1:=e1.aA AQ (Γ _);obtain⟨cs,hs⟩:=(ψ.ext x2).sl;refine ν<|θ<|γ U<|aG U hs<|γ U<|ε ?_;refine aK<|ae (aks (x:=x) (vv:=vv) hC hk ψ ?_ _ 0 .ns .ns [] h2 n1 rfl (by omega) (by omega) (Gr.ns x2) trivial (Gr.ns x2) (Or.inl U) (Or.inl U) (Or.inl U) (λp hp=>by cases hp) a2) ⟨rfl,rfl,rfl,rfl,rfl,trivial⟩;intro v kk m h3 n3 E3 lz g3 Gz JX v1 k1 ZF Pn Po s3;refine dB s3 ?_;have Az:=ρ.ext hv g3.ext;have JF:=(qQ l).1;refine θ<|Ω U<|χ U (dV Po rfl _)<|al U U<|Xy hC Az (by omega) <| λv4 h4 n4 x4 o4 p4=>Ω U<|ct U U ((x4.2 n lz).trans Po) (E0 o4.sl.cells o4.sl.one) <| λh5 a5 b5=>ε ?_;have qh:df n h4 h5:=b5;have n34:=x4.1;have FF:=kU (wk x (fg l).2) o4.sl.one JX.sl.one;have g5:=(g3.on x4).aA qh (Γ _) (v1.imp id λg=>by omega);have Fk:h5 n=some (.c (dT (wk x (fg l).2) v4 kk) 87 0):=a5;refine θ<|γ U<|χ U (cz Fk (oM rfl))<|fx (Cr rfl FF rfl) <| λh6 n6 pz a6 x6=>jK U ((g5.on x6).own) U (ρ.whole (len:=1) (by omega) a6 rfl) (by omega) (by omega) (by omega) (by omega) FF ((g5.on x6).lt) <| λv8 h8 n8 o8 q8 mJ s8=>γ U<|ε<|aj ⟨_,rfl,?_⟩;have n46:=x6.1;have g8:=(g5.on x6).app o8 q8 mJ s8;have ZG:=g3.lt;have m8:∀k:K,k.num<n4.num->k.num≠n.num->(v=.ns\/k.num≠v.blk.num)->h8 k=h4 k:=λk h1 h2 h3=>by rw[s8 k (by omega) h3,x6.2 k h1,qh k h2]
 have eY:∀{w:V},(w=.ns\/w.blk.num<n4.num)->(w=.ns\/n.num<w.blk.num)->dh w v->w=.ns\/h8 w.blk=h4 w.blk:=by
  intro w h1 h2 h3;rcases h1 with g | g
  ·exact Or.inl g
  ·rcases h2 with k | k
   ·exact Or.inl k
   ·rcases h3 with e | e | e
    ·exact Or.inl e
    ·exact Or.inr (m8 _ g (by omega) (Or.inl e))
    ·exact Or.inr (m8 _ g (by omega) (Or.inr e))
 have C8:n4.num<=n8.num:=by omega
 have w4:v4=.ns\/n.num<v4.blk.num:=p4.imp id λg=>by omega
 have rows:dw (λx p=>fC h8 n8 p.1 x.vars/\gh h8 n8 .i64 p.2 x.kids) (rY x l) (m++[(v4,kk)]):=by
  refine dw.app (dw.mono (λx p a=>?_) (Gz.and Pn)) ⟨⟨?_,?_⟩,trivial⟩
  ·have b1:=ρ.ext a.1.1 x4;have k1:=ρ.ext a.1.2.1 x4;exact⟨ρ.gq b1 (eY (ρ.eG b1) a.2.2.1 a.1.2.2.1) C8,ρ.gq k1 (eY (ρ.eG k1) a.2.2.2 a.1.2.2.2) C8⟩
  ·exact ρ.gq o4.sl (eY (ρ.eG o4.sl) w4 (dh.of ZG p4).symm) C8
  ·have k3:=ρ.ext JX.sl x4;exact ρ.gq k3 (eY (ρ.eG k3) k1 ZF) C8
 have ZH:v4=.ns\/n.num<=v4.blk.num:=w4.imp id λg=>by omega
 have ZI:kk=.ns\/n.num<=kk.blk.num:=k1.imp id λg=>by omega
 refine hQ v8 h8 n8 g8.ext ⟨m++[(v4,kk)],⟨rows.len,?_,λi hi=>rows.get i hi (by rw[rows.len];exact hi)⟩,Or.inr (by rw[q8];omega),λp hp=>?_⟩
 rotate_left
 ·rcases kc.1 hp with g | g
  ·have:=Pn p g;exact⟨this.2.1.imp id λg=>by omega,this.2.2.imp id λg=>by omega⟩
  ·rw[mN]at g;subst g;exact⟨ZH,ZI⟩
 have:=g8.sl;unfold rY;rw[xX Gz.len,gX];exact this
end
section
variable {C:Nat->Option bP}{h:Hf}{n:K}{Q:V->Hf->K->Prop}
section
variable {h1:Hf}{n1 b:K}{x:Nd}{vv kv u1 u2 u5 u6 u8:V}{f:Nat}
theorem akw(hf:f<1000000)(hb:b.num<n1.num)(NQ:h1 b=some (.c (dT x vv kv) 87 0))(hk:gh h1 n1 .i64 kv x.kids)(eU:x.kids.length<1000000)(j7:∀k∈x.kids,0<=k/\k<1000000){Q1:Ex->Env->Hf->K->Prop}
 (hQ:∀w h n E',Gr h1 n1 h n 3 1 w x.kids.length (eI .i64 (x.kids.map λk=>k+(f:Int)))->da [(k1,u1),(k2,u2),(k5,u5),(k6,u6),(k7,.i .i64 (f:Nat)),(k8,u8),(k9,.p b 0),(aF,w)] E'->Q1 .normal E' h n):
 ∀(r j:Nat) (w:V) (h:Hf) (n:K),x.kids.length - j=r->j<=x.kids.length->Gr h1 n1 h n 3 1 w j (eI .i64 ((x.kids.take j).map λk=>k+(f:Int)))->WC C UM [(k1,u1),(k2,u2),(k5,u5),(k6,u6),(k7,.i .i64 (f:Nat)),(k8,u8),(k9,.p b 0),(aF,w),(aH,.i .i64 (j:Nat))] h n (blk 4 Q1):=by
 intro r
 induction r with
 | zero=>
  intro j w h n hr hj hg;have:j=x.kids.length:=by omega
  subst this;rw[fO]at hg;refine aQ ?_;refine ν<|θ<|γ U<|Ω U<|χ U (dV ((hg.ext.2 b hb).trans NQ) U _)<|aG U (hk.ext hg.ext)<|aP U U<|ε ?_;exact aE U (by simp)<|bW (hQ w h n _ hg ⟨rfl,rfl,rfl,rfl,rfl,rfl,rfl,rfl,trivial⟩)
 | succ r ih=>
  intro j w h n hr hj hg;have ψ:j<x.kids.length:=by omega
  have Nl:=j7 x.kids[j] (dU _);have Gy:=hk.ext hg.ext;refine aQ ?_;refine ν<|θ<|γ U<|Ω U<|χ U (dV ((hg.ext.2 b hb).trans NQ) U _)<|aG U Gy<|aP U U<|ε ?_;refine aD U (by simp<;>omega)<|ao ?_;refine ν<|aK<|aR<|γ U<|Ω U<|χ U (dV ((hg.ext.2 b hb).trans NQ) U _)<|γ U<|bh U U Gy ψ<|χ U (Gy.get ψ _)<|γ U<|cK U U ⟨by omega,by omega⟩<|fx (kT rfl rfl rfl) <| λh2 n2 fB a2 e2=>jK U ((hg.on e2).own) U (ρ.whole (len:=1) (by omega) a2 rfl) (by omega) (by omega) (by omega) (by omega) U ((hg.on e2).lt) <| λw4 h4 n4 o4 q4 nE s4=>γ U<|ε ?_;have g4:=(hg.on e2).app o4 q4 nE s4;refine aR<|γ U<|cK U U ⟨by omega,by omega⟩<|γ U<|ε ?_;refine ae (ih (j+1) w4 h4 n4 (by omega) (by omega) ?_) ⟨rfl,rfl,rfl,rfl,rfl,rfl,rfl,rfl,rfl,trivial⟩;rw[iy ψ,List.map_append,Hl];exact g4
end
section
variable {h0 hS:Hf}{n0 nS:K}{us ts:List Nd}{vo vt w u2:V}{mo:List (V×V)}{i:Nat}{l:List (List Nd)}
theorem akx(ψ:gU hS nS vt l)(hi:i<l.length)(hli:l.length<1000000)(oj:l[i]=ts)(hb:Bd ts)(j7:∀i (hi:i<ts.length),∀k∈ts[i].kids,0<=k/\k<1000000)(FC:us.length<1000000)(hvo:vo=.ns\/vo.blk.num<nS.num)(hvt:∀k:K,k.num<n0.num->hS k=h0 k)(JY:n0.num<=nS.num)(IW:gU h0 n0 vt l){Q1:Ex->Env->Hf->K->Prop}
 (hQ:∀v mc h n E',nS.num<=n.num->Gr h0 n0 h n 87 5 v (us++ts.map (jD λx=>x+(us.length:Int))).length (dc (us++ts.map (jD λx=>x+(us.length:Int))) (mo++mc))->dw (RG h n v) (us++ts.map (jD λx=>x+(us.length:Int))) (mo++mc)->(∀k:K,k.num<nS.num->(vo=.ns\/k.num≠vo.blk.num)->h k=hS k)->(v=vo\/nS.num<=v.blk.num)->(∀p∈mc,(p.1=.ns\/nS.num<=p.1.blk.num)/\(p.2=.ns\/nS.num<=p.2.blk.num))->da [(k1,vt),(k2,u2),(k5,v),(k6,.i .i64 (i:Nat)),(k7,.i .i64 (us.length:Nat))] E'->Q1 .normal E' h n):
 ∀(r q:Nat) (v:V) (mc:List (V×V)) (h:Hf) (n:K),ts.length - q=r->q<=ts.length->nS.num<=n.num->Gr h0 n0 h n 87 5 v (us++(ts.take q).map (jD λx=>x+(us.length:Int))).length (dc (us++(ts.take q).map (jD λx=>x+(us.length:Int))) (mo++mc))->dw (RG h n v) (us++(ts.take q).map (jD λx=>x+(us.length:Int))) (mo++mc)->(∀k:K,k.num<nS.num->(vo=.ns\/k.num≠vo.blk.num)->h k=hS k)->(v=vo\/nS.num<=v.blk.num)->(∀p∈mc,(p.1=.ns\/nS.num<=p.1.blk.num)/\(p.2=.ns\/nS.num<=p.2.blk.num))->WC C UN [(k1,vt),(k2,u2),(k5,v),(k6,.i .i64 (i:Nat)),(k7,.i .i64 (us.length:Nat)),(k8,.i .i64 (q:Nat))] h n (blk 2 Q1):=by
 have hlen:=hb.len;intro r
 induction r with
 | zero=>
  intro q v mc h n hr hq hn hg fo hm hv JW;have:q=ts.length:=by omega
  subst this;rw[fO]at hg fo;obtain⟨w,hw,tw⟩:=(IW.ext hg.ext).get hi;obtain⟨cs,hs⟩:=(IW.ext hg.ext).sl;rw[oj]at tw;obtain⟨cw,sw⟩:=tw.sl;refine aQ ?_;refine ν<|θ<|γ U<|γ U<|γ U<|bh U U hs hi<|χ U hw<|aG U sw<|aP U U<|ε ?_;exact aE U (by simp)<|bW (hQ v mc h n _ hn hg fo hm hv JW ⟨rfl,rfl,rfl,rfl,rfl,trivial⟩)
 | succ r ih=>
  intro q v mc h n hr hq hn hg fo hm hv JW;have Cv:q<ts.length:=by omega
  obtain⟨w,hw,tw⟩:=(IW.ext hg.ext).get hi;obtain⟨cs,hs⟩:=(IW.ext hg.ext).sl;rw[oj]at tw;obtain⟨cw,sw⟩:=tw.sl;obtain⟨vv,kv,hx⟩:=tw.node Cv;have eF:=kU ts[q] (ρ.one hx.vars) (ρ.one hx.kids);have eU:=hb.qg q Cv;have ug:=hb.vl q Cv;refine aQ ?_;refine ν<|θ<|γ U<|γ U<|γ U<|bh U U hs hi<|χ U hw<|aG U sw<|aP U U<|ε ?_;refine aD U (by simp<;>omega)<|ao ?_;refine ν<|aK<|θ<|γ U<|γ U<|bh U U hs hi<|χ U hw<|γ U<|bh U U sw Cv<|χ U hx.all<|ea <| λh2 n2 fB a2 e2=>ct U U a2 (ff rfl rfl eF) <| λh3 a3 b3=>ε ?_;have wT:df n h2 h3:=b3;have x3:Ext h n h3 n2:=e2.aA wT (Γ _);have Az:=hx.vars.ext x3;refine θ<|Ω U<|χ U (dV a3 rfl _)<|BX U U Az (by omega) (by omega) (by omega) <| λv4 h4 n4 o4 x4 p4=>Ω U<|ct U U ((x4.2 _ (by omega)).trans a3) (E0 o4.cells o4.one) <| λh5 a5 b5=>ε ?_;have qh:df n h4 h5:=b5;have x5:Ext h n h5 n4:=(x3.trans x4).aA qh (Γ _);have n24:=x4.1;have Fk:h5 n=some (.c (dT ts[q] v4 kv) 87 0):=a5;refine θ<|γ U<|ε ?_;refine ν<|θ<|γ U<|ε ?_;refine aK<|ae (akw (b:=n) FC (by omega) Fk (hx.kids.ext x5) eU (j7 q Cv) ?_ _ 0 .ns h5 n4 rfl (by omega) (Gr.ns (Ext.refl _ _))) ⟨rfl,rfl,rfl,rfl,rfl,rfl,rfl,rfl,rfl,trivial⟩;intro v6 h6 n6 E6 g6 s6;refine dB s6 ?_;have x6:=g6.ext;have n46:=x6.1;have a6:=(x6.2 n (by omega)).trans Fk;refine θ<|γ U<|Ω U<|ct U U a6 (AL g6.sl.cells g6.sl.one) <| λh7 a7 b7=>ε ?_;have lZ:df n h6 h7:=b7;have x7:Ext h n h7 n6:=(x5.trans x6).aA lZ (Γ _);have Gb:h7 n=some (.c (dT (jD (λx=>x+(us.length:Int)) ts[q]) v4 v6) 87 0):=a7;have XA:=kU (jD (λx=>x+(us.length:Int)) ts[q]) o4.one g6.own.one;have g7:=hg.on x7;have qi:(us++(ts.take q).map (jD λx=>x+(us.length:Int))).length=us.length+q:=by simp;omega
  refine aR<|γ U<|χ U (cz Gb (oM rfl))<|fx (Cr rfl XA rfl) <| λh8 n8 mJ a8 x8=>jK U ((g7.on x8).own) U (ρ.whole (len:=1) (by omega) a8 rfl) (by rw[qi];omega) (by omega) (by rw[qi];omega) (by omega) XA ((g7.on x8).lt) <| λv9 h9 n9 o9 q9 OY s9=>γ U<|ε ?_;have g9:=(g7.on x8).app o9 q9 OY s9;have n27:=x7.1;have n78:=x8.1;have ZG:=hg.lt;have n02:=x3.1;have m9:∀k:K,k.num<n.num->(v=.ns\/k.num≠v.blk.num)->h9 k=h k:=λk h1 h2=>by rw[s9 k (by omega) h2,x8.2 k (by omega),x7.2 k h1]
  have m9':∀k:K,n.num<k.num->k.num<n6.num->h9 k=h6 k:=λk h1 h2=>by rw[s9 k (by omega) (ZG.imp id λg=>by omega),x8.2 k h2,lZ k (by omega)]
  have l4:=ρ.eG (o4.sl (n:=n4) (p4.imp id And.right));have f4:v4=.ns\/h9 v4.blk=h4 v4.blk:=p4.imp id λg=>by rw[m9' _ (by omega) (by omega),x6.2 _ g.2,qh _ (by omega)]
  have f6:v6=.ns\/h9 v6.blk=h6 v6.blk:=g6.at_.imp id λg=>m9' _ (by omega) g.2;have ge4:v4=.ns\/n.num<=v4.blk.num:=p4.imp id λg=>by omega
  have ge6:v6=.ns\/n.num<=v6.blk.num:=g6.at_.imp id λg=>by omega
  have sg4:v4=.ns\/nS.num<=v4.blk.num:=ge4.imp id λg=>by omega
  have sg6:v6=.ns\/nS.num<=v6.blk.num:=ge6.imp id λg=>by omega
  have row:RG h9 n9 v9 (jD (λx=>x+(us.length:Int)) ts[q]) (v4,v6):=by refine⟨ρ.gq (o4.sl (n:=n4) (p4.imp id And.right)) f4 (by omega),?_,dh.of l4 (Or.inr (by rw[q9];omega)),dh.of g6.lt (Or.inr (by rw[q9];omega))⟩;have:=g6.sl;refine ρ.gq (n:=n6) ?_ f6 (by omega);show ρ h6 n6 1 v6 ((ts[q].kids.map λk=>k+(us.length:Int)).length) _;rw[lC];exact this
  have etq:ts.take (q+1)=ts.take q++[ts[q]]:=iy Cv;have eus:us++(ts.take (q+1)).map (jD λx=>x+(us.length:Int))=(us++(ts.take q).map (jD λx=>x+(us.length:Int)))++[jD (λx=>x+(us.length:Int)) ts[q]]:=by rw[etq,List.map_append,←uF];rfl
  refine aR<|γ U<|cK U U ⟨by omega,by omega⟩<|γ U<|ε ?_;refine ae (ih (q+1) v9 (mc++[(v4,v6)]) h9 n9 (by omega) (by omega) (by omega) ?_ ?_ ?_ (Or.inr (by rw[q9];omega)) ?_) ⟨rfl,rfl,rfl,rfl,rfl,rfl,trivial⟩
  ·rw[eus,←uF,xX fo.len,gX];exact g9
  ·rw[eus,←uF];exact dw.app (dw.mono (λx p a=>(a.to m9 (Or.inr (by rw[q9];omega))).up (by omega)) fo) ⟨row,trivial⟩
  ·intro k h1 h2;rw[m9 k (by omega) (hv.elim (λg=>by rw[g];exact h2) λg=>Or.inr (by omega)),hm k h1 h2]
  ·intro p hp;rcases kc.1 hp with g | g
   ·exact JW p g
   ·rw[mN]at g;subst g;exact⟨sg4,sg6⟩
end
section
variable {h0:Hf}{n0:K}{vt:V}{l:List (List Nd)}{x:Nd}{vv:V}
theorem akA(hC:Cd C)(hk:Kd l)(ψ:gU h0 n0 vt l){Q1:Ex->Env->Hf->K->Prop}
 (hQ:∀v kk m h n E',n0.num<n.num->Gr h0 n0 h n 87 5 v (fg l).1.length (dc (fg l).1 m)->dw (RG h n v) (fg l).1 m->Gr h0 n0 h n 3 1 kk (fg l).2.length (eI .i64 (fg l).2)->(v=.ns\/n0.num<v.blk.num)->(kk=.ns\/n0.num<kk.blk.num)->dh kk v->(∀p∈m,PK kk n0 p)->h n0=some (.c (dT x vv kk) 87 0)->(fC h n vv x.vars/\dh vv v/\dh vv kk/\(vv=.ns\/n0.num<vv.blk.num))->da [(k2,.p n0 0),(k5,v)] E'->Q1 .normal E' h n):
 ∀(r i:Nat) (v kk:V) (m:List (V×V)) (h:Hf) (n:K),l.length - i=r->i<=l.length->n0.num<n.num->Gr h0 n0 h n 87 5 v (fg (l.take i)).1.length (dc (fg (l.take i)).1 m)->dw (RG h n v) (fg (l.take i)).1 m->Gr h0 n0 h n 3 1 kk i (eI .i64 (fg (l.take i)).2)->(v=.ns\/n0.num<v.blk.num)->(kk=.ns\/n0.num<kk.blk.num)->dh kk v->(∀p∈m,PK kk n0 p)->h n0=some (.c (dT x vv kk) 87 0)->(fC h n vv x.vars/\dh vv v/\dh vv kk/\(vv=.ns\/n0.num<vv.blk.num))->WC C UO [(k1,vt),(k2,.p n0 0),(k5,v),(k6,.i .i64 (i:Nat))] h n (blk 0 Q1):=by
 have oA:=hk.len;have NR:=hk.sum;intro r
 induction r with
 | zero=>
  intro i v kk m h n hr hi tM hg fo xm ji uk m6 GB eJ qe;have:i=l.length:=by omega
  subst this;rw[fO]at hg fo xm;obtain⟨cs,hs⟩:=(ψ.ext hg.ext).sl;refine aQ ?_;refine ν<|θ<|γ U<|γ U<|aG U hs<|aP U U<|ε ?_;exact aE U (by simp)<|bW (hQ v kk m h n _ tM hg fo (by rw[(qQ l).2];exact xm) ji uk m6 GB eJ qe ⟨rfl,rfl,trivial⟩)
 | succ r ih=>
  intro i v kk m h n hr hi tM hg fo xm ji uk m6 GB eJ qe;have iU:i<l.length:=by omega
  obtain⟨w,hw,tw⟩:=(ψ.ext hg.ext).get iU;obtain⟨cs,hs⟩:=(ψ.ext hg.ext).sl;have JF:=(qQ (l.take i)).1;have eU:=(qQ (l.take i)).2;have htk:=IV l i;have akt:=IV l (i+1);have FD:=(qQ (l.take (i+1))).1;rw[yU iU]at FD;simp only[pC,gX,lC]at FD;have wU:(fg (l.take i)).2.length=i:=by rw[eU];simp;omega
  refine aQ ?_;refine ν<|θ<|γ U<|γ U<|aG U hs<|aP U U<|ε ?_;refine aD U (by simp<;>omega)<|ao ?_;refine ν<|aK<|θ<|γ U<|aG U hg.sl<|γ U<|ε ?_;refine ν<|θ<|γ U<|ε ?_;refine aK<|ae (akx (hS:=h) (nS:=n) (mo:=m) (i:=i) (ψ.ext hg.ext) iU (by omega) U (hk.bd i iU) (hk.kr i iU) (by omega) hg.lt (λk hk=>hg.ext.2 k hk) hg.ext.1 ψ ?_ _ 0 v [] h n rfl (by omega) (Γ _) (by simpa using hg) (by simpa using fo) (λ_ _ _=>rfl) (Or.inl U) (λp hp=>by cases hp)) ⟨rfl,rfl,rfl,rfl,rfl,rfl,trivial⟩;intro v' mc h2 n2 E2 fB g2 C6 s2 iG NS sE;refine dB sE ?_;have C7:=xm.lt;have NT:h2 n0=some (.c (dT x vv kk) 87 0):=(s2 n0 tM (ji.imp id λg=>by omega)).trans eJ;have vl:=ρ.eG qe.1;have vv2:=dh.eY vl qe.2.1 s2;have ZJ:fC h2 n2 vv x.vars:=ρ.gq qe.1 vv2 fB;have vn2:dh vv v':=by
   rcases iG with g | g
   ·rw[g];exact qe.2.1
   ·exact dh.of vl (Or.inr g)
  have ZA:kk=.ns\/h2 kk.blk=h kk.blk:=dh.eY C7 m6 s2;have NU:Gr h0 n0 h2 n2 3 1 kk i (eI .i64 (fg (l.take i)).2):=⟨g2.ext,xm.own.ext ZA,xm.at_.imp id λg=>⟨g.1,by omega⟩⟩;have NV:v'=.ns\/n0.num<v'.blk.num:=by
   rcases iG with g | g
   ·rw[g];exact ji
   ·exact Or.inr (by omega)
  have ZB:dh kk v':=by
   rcases iG with g | g
   ·rw[g];exact m6
   ·exact dh.of C7 (Or.inr g)
  have NW:∀p∈m++mc,PK kk n0 p:=by
   intro p hp;rcases kc.1 hp with g | g
   ·exact GB p g
   ·have:=NS p g;exact⟨⟨(dh.of C7 this.1).symm,(dh.of C7 this.2).symm⟩,this.1.imp id λg=>by omega,this.2.imp id λg=>by omega⟩
  have qi:((fg (l.take i)).1++l[i].map (jD λx=>x+((fg (l.take i)).1.length:Int))).length=(fg (l.take i)).1.length+l[i].length:=by simp
  refine aR<|Ω U<|χ U (dV NT rfl _)<|γ U<|aG U g2.sl<|kQ U U (show(((fg (l.take i)).1++l[i].map (jD λx=>x+((fg (l.take i)).1.length:Int))).length:Int) - 1=(((fg (l.take i)).1.length+l[i].length:Nat):Int) - 1 by rw[qi]) ⟨by omega,by omega⟩<|fx (kT rfl rfl rfl) <| λh3 n3 lz a3 e3=>jK U ((NU.on e3).own) U (ρ.whole (len:=1) (by omega) a3 rfl) (by omega) (by omega) (by omega) (by omega) U ((NU.on e3).lt) <| λv4 h4 n4 o4 q4 nE s4=>Ω U<|ct U U ((s4 n0 (by have:=e3.1;omega) (uk.imp id λg=>by omega)).trans ((e3.2 n0 (by omega)).trans NT)) (AL o4.cells o4.one) <| λh5 a5 b5=>ε ?_;have qh:df n0 h4 h5:=b5;have n23:=e3.1;have m5:∀k:K,k.num<n2.num->k.num≠n0.num->(kk=.ns\/k.num≠kk.blk.num)->h5 k=h2 k:=λk h1 h2 h3=>by rw[qh k h2,s4 k (by omega) h3,e3.2 k h1]
  have eY:∀{w:V},(w=.ns\/w.blk.num<n2.num)->(w=.ns\/n0.num<w.blk.num)->dh kk w->w=.ns\/h5 w.blk=h2 w.blk:=by
   intro w h1 h2 h3;rcases h1 with g | g
   ·exact Or.inl g
   ·rcases h2 with k | k
    ·exact Or.inl k
    ·rcases h3 with e | e | e
     ·exact Or.inr (m5 _ g (by omega) (Or.inl e))
     ·exact Or.inl e
     ·exact Or.inr (m5 _ g (by omega) (Or.inr (Ne.symm e)))
  have x5:Ext h0 n0 h5 n4:=g2.ext.trans' (by omega) λk hk=>m5 k (by omega) (by omega) (uk.imp id λg=>by omega);have g5:Gr h0 n0 h5 n4 87 5 v' ((fg (l.take i)).1++l[i].map (jD λx=>x+((fg (l.take i)).1.length:Int))).length (dc ((fg (l.take i)).1++l[i].map (jD λx=>x+((fg (l.take i)).1.length:Int))) (m++mc)):=
   ⟨x5,g2.own.ext (eY g2.lt NV ZB),g2.at_.imp id λg=>⟨g.1,by omega⟩⟩
  have ZC:dw (RG h5 n4 v') ((fg (l.take i)).1++l[i].map (jD λx=>x+((fg (l.take i)).1.length:Int))) (m++mc):=
   dw.mono (λx p a=>⟨ρ.gq a.1.1 (eY (ρ.eG a.1.1) a.2.2.1 a.2.1.1.symm) (by omega),ρ.gq a.1.2.1 (eY (ρ.eG a.1.2.1) a.2.2.2 a.2.1.2.symm) (by omega),a.1.2.2⟩) (C6.and NW)
  have ZD:Gr h0 n0 h5 n4 3 1 v4 (i+1) (eI .i64 ((fg (l.take i)).2++[(((fg (l.take i)).1.length+l[i].length:Nat):Int) - 1])):=by refine⟨x5,?_,Or.inr ⟨by rw[q4];omega,by rw[q4];omega⟩⟩;rw[Hl];exact o4.ext (Or.inr (qh _ (by rw[q4];omega)))
  have FE:∀{w:V},(w=.ns\/w.blk.num<n2.num)->dh w v4:=λh=>dh.of h (Or.inr (by rw[q4];omega));have ZE:∀p∈m++mc,PK v4 n0 p:=by intro p hp;obtain⟨j,hj,rfl⟩:=lB hp;have hr:=C6.get j (by rw[←C6.len];exact hj) hj;have:=NW _ hp;exact⟨⟨FE (ρ.eG hr.1),FE (ρ.eG hr.2.1)⟩,this.2⟩
  refine aR<|γ U<|cK U U ⟨by omega,by omega⟩<|γ U<|ε ?_;refine ae (ih (i+1) v' v4 (m++mc) h5 n4 (by omega) (by omega) (by omega) ?_ ?_ ?_ NV (Or.inr (by rw[q4];omega)) (FE g2.lt).symm ZE a5 ⟨ρ.gq ZJ (eY (ρ.eG ZJ) qe.2.2.2 qe.2.2.1.symm) (by omega),vn2,FE (ρ.eG ZJ),qe.2.2.2⟩) ⟨rfl,rfl,rfl,rfl,trivial⟩
  ·rw[yU iU];exact g5
  ·rw[yU iU];exact ZC
  ·rw[yU iU];exact ZD
end
theorem w67(hC:Cd C){vt vv kv:V}{x:Nd}{l:List (List Nd)}(hk:Kd l)(ψ:gU h n vt l)(hv:fC h n vv x.vars)(m6:kv.one=true)(ug:x.vars.length<1000000)
 (hQ:∀v h' n',Ext h n h' n'->TG h' n n' v (rY x l)->Q v h' n'):τ C (.f 67 [] []) [.a (dT x vv kv),vt] h n Q:=by
 refine τ.go hC.f67 U ?_;have eF:=kU x (ρ.one hv) m6;have oA:=hk.len;have NR:=hk.sum;refine θ<|eL U U eF <| λh1 n1 dZ a1 e1=>γ U<|ε ?_;refine θ<|γ U<|ε ?_;refine θ<|Ω U<|ct U U a1 (AL rfl rfl) <| λh2 a2 b2=>ε ?_;have AQ:df n h1 h2:=b2;have x2:Ext h n h2 n1:=e1.aA AQ (Γ _);have iG:=ρ.ext hv x2;refine θ<|Ω U<|χ U (dV a2 rfl _)<|BX U U iG (by omega) (by omega) (by omega) <| λv4 h4 n4 o4 x4 p4=>Ω U<|ct U U ((x4.2 n (by omega)).trans a2) (E0 o4.cells o4.one) <| λh5 a5 b5=>ε ?_;have qh:df n h4 h5:=b5;have Ny:=x4.1;have x5:Ext h n h5 n4:=(x2.trans x4).aA qh (Γ _);have w4:v4=.ns\/n.num<v4.blk.num:=p4.imp id λg=>by omega
 have hv5:fC h5 n4 v4 x.vars:=(o4.ext (w4.imp id λg=>qh _ (by omega))).sl (p4.imp id And.right);refine ν<|θ<|γ U<|ε ?_;refine aK<|ae (akA (x:=x) (vv:=v4) hC hk ψ ?_ _ 0 .ns .ns [] h5 n4 rfl (by omega) (by omega) (Gr.ns x5) trivial (Gr.ns x5) (Or.inl U) (Or.inl U) (Or.inl U) (λp hp=>by cases hp) a5 ⟨hv5,Or.inr (Or.inl U),Or.inr (Or.inl U),w4⟩) ⟨rfl,rfl,rfl,rfl,trivial⟩;intro v kk m h3 n3 E3 lz g3 Gz JX v1 k1 ZF Pn Po qe s3;refine dB s3 ?_;have JF:=(qQ l).1;have FF:=kU (wk x (fg l).2) (ρ.one qe.1) JX.sl.one;have Fk:h3 n=some (.c (dT (wk x (fg l).2) v4 kk) 87 0):=Po;refine θ<|γ U<|χ U (cz Fk (oM rfl))<|fx (Cr rfl FF rfl) <| λh6 n6 pz a6 x6=>jK U ((g3.on x6).own) U (ρ.whole (len:=1) (by omega) a6 rfl) (by omega) (by omega) (by omega) (by omega) FF ((g3.on x6).lt) <| λv8 h8 n8 o8 q8 mJ s8=>γ U<|ε<|aj ⟨_,rfl,?_⟩;have n46:=x6.1;have g8:=(g3.on x6).app o8 q8 mJ s8;have m8:∀k:K,k.num<n3.num->(v=.ns\/k.num≠v.blk.num)->h8 k=h3 k:=λk h1 h3=>by rw[s8 k (by omega) h3,x6.2 k h1]
 have eY:∀{w:V},(w=.ns\/w.blk.num<n3.num)->dh w v->w=.ns\/h8 w.blk=h3 w.blk:=λh1 h2=>dh.eY h1 h2 m8;have C8:n3.num<=n8.num:=by omega
 have rows:dw (λx p=>fC h8 n8 p.1 x.vars/\gh h8 n8 .i64 p.2 x.kids) (rY x l) (m++[(v4,kk)]):=by
  refine dw.app (dw.mono (λx p a=>?_) Gz) ⟨⟨?_,?_⟩,trivial⟩
  ·exact⟨ρ.gq a.1 (eY (ρ.eG a.1) a.2.2.1) C8,ρ.gq a.2.1 (eY (ρ.eG a.2.1) a.2.2.2) C8⟩
  ·exact ρ.gq qe.1 (eY (ρ.eG qe.1) qe.2.1) C8
  ·exact ρ.gq JX.sl (eY (ρ.eG JX.sl) ZF) C8
 have ZH:v4=.ns\/n.num<=v4.blk.num:=qe.2.2.2.imp id λg=>by omega
 have ZI:kk=.ns\/n.num<=kk.blk.num:=k1.imp id λg=>by omega
 refine hQ v8 h8 n8 g8.ext ⟨m++[(v4,kk)],⟨rows.len,?_,λi hi=>rows.get i hi (by rw[rows.len];exact hi)⟩,Or.inr (by rw[q8];omega),λp hp=>?_⟩
 rotate_left
 ·rcases kc.1 hp with g | g
  ·have:=Pn p g;exact⟨this.2.1.imp id λg=>by omega,this.2.2.imp id λg=>by omega⟩
  ·rw[mN]at g;subst g;exact⟨ZH,ZI⟩
 have:=g8.sl;unfold rY;rw[xX Gz.len,gX];exact this
end
section
variable {C:Nat->Option bP}{h:Hf}{n:K}{Q:V->Hf->K->Prop}
theorem w61(hC:Cd C){t:V}{ts:List Nd}{m:List (V×V)}(ht:lM h n t ts m)(hlen:ts.length<1000000)(h0:0<ts.length)
 (hQ:∀h' n' vv kv,Ext h n h' n'->m[ts.length - 1]?=some (vv,kv)->fC h n vv (ts[ts.length - 1]'(by omega)).vars->gh h n .i64 kv (ts[ts.length - 1]'(by omega)).kids->Q (.a (dT (ts[ts.length - 1]'(by omega)) vv kv)) h' n'):τ C (.f 61 [] []) [t] h n Q:=by
 refine τ.go hC.f61 U ?_;have lA:ts.length - 1<ts.length:=by omega
 have hm:=ht.choose;obtain⟨_,hs,hr⟩:=ht;have iS:=wo hm lA;have hb:=(hr _ lA).1;have hk:=(hr _ lA).2;refine θ<|ea <| λh1 n1 dZ a1 e1=>ε ?_;have kh:=hs.ext e1;have hg:=kh.nO (i:=(ts.length - 1)*5) (sz:=5) (by omega) (by omega);rw[iS]at hg;have eF:=kU ts[ts.length - 1] (ρ.one hb) (ρ.one hk);refine θ<|γ U<|γ U<|aG U kh<|kQ U U (show(ts.length:Int) - 1=((ts.length - 1:Nat):Int) by omega) ⟨by omega,by omega⟩<|bh U U kh lA<|χ U hg<|ct U U a1 (ff rfl rfl eF) <| λh2 a2 b2=>ε ?_;refine aj ⟨_,kP rfl (cz a2 (oM rfl)),?_⟩;exact hQ h2 n1 _ _ (e1.aA b2 (Γ _)) (by rw[gP]) hb hk
theorem db.nil(h:Hf)(n:K):db h n .ns []:=⟨[],rfl,ρ.ns h n 5,λi hi=>by simp at hi⟩
theorem w65(hC:Cd C){t:V}{ts:List Nd}(hb:Bd ts)(hg:Gl h n)(ht:db h n t ts)(hQ:∀v h' n',Ext h n h' n'->db h' n' v (if dN ts=0 then ts else [])->Q (.u [v,.i .i64 (dN ts)]) h' n'):τ C (.f 65 [] []) [t] h n Q:=by
 refine τ.go hC.f65 U ?_;refine θ<|γ U<|γ U<|ε ?_;refine ν<|θ<|γ U<|al U U<|JV hC hb hg ht <| λh1 n1 e1=>γ U<|ε ?_;by_cases h0:dN ts=0
 ·refine θ<|γ U<|fT U U<|ε ?_;refine aE U (by simp[h0])<|ao ?_;refine θ<|γ U<|γ U<|γ U<|ε (aj ⟨_,rfl,?_⟩);have:=hQ t h1 n1 e1 (by rw[az h0];exact ht.ext e1);rw[h0]at this;exact this
 ·refine θ<|γ U<|fT U U<|ε ?_;refine aD U (by simp[h0]) ?_;refine θ<|γ U<|γ U<|γ U<|ε (aj ⟨_,rfl,hQ .ns h1 n1 e1 (by rw[ai h0];exact db.nil _ _)⟩)
def kD(ts:List Nd)(j:Int):Int:=eD [dN ts,if j<0\/(ts.length:Int)<=j then 8 else 0]
def yV(ts:List Nd)(j:Int):List Nd:=if kD ts j=0 then part ts j.toNat else []
theorem XB{ts:List Nd}{j:Int}(hb:Bd ts)(h:kD ts j=0):∃i:Nat,j=(i:Int)/\i<ts.length/\Rt ts:=by
 unfold kD at h;rw[AE]at h;by_cases h1:dN ts=0
 ·rw[ai (by simp[h1])]at h;by_cases h2:j<0\/(ts.length:Int)<=j
  ·rw[az h2]at h;cases h
  ·exact⟨j.toNat,by omega,by omega,(NP hb h1).1⟩
 ·rw[az h1]at h;exact absurd h h1
theorem w21(hC:Cd C){t:V}{ts:List Nd}{j:Int}(hb:Bd ts)(hg:Gl h n)(ht:db h n t ts)(hQ:∀v h' n',Ext h n h' n'->db h' n' v (yV ts j)->Q (.u [v,.i .i64 (kD ts j)]) h' n'):τ C (.f 21 [] []) [t,.i .i64 j] h n Q:=by
 refine τ.go hC.f21 U ?_;have hlen:=hb.len;obtain⟨cs,hs⟩:=ht.sl;have tail:∀{h1 n1 E},Ext h n h1 n1->da [(k0,t),(k1,.i .i64 j),(k6,.i .i64 (kD ts j))] E->WC C UW E h1 n1 (sq C UX (fq [.t k4,.t k5] Q)):=by
  intro h1 n1 E e1 s;refine dB s ?_;refine θ<|γ U<|fT U U<|ε ?_;by_cases h0:kD ts j=0
  ·refine aE U (by simp[h0])<|ao ?_;obtain⟨i,rfl,hi,hr⟩:=XB hb h0;refine θ<|γ U<|γ U<|al U U<|w69 hC (ht.ext e1) hb hi hr.ord <| λv h2 n2 e2 tg=>γ U<|γ U<|ε (aj ⟨_,rfl,?_⟩);have:=hQ v h2 n2 (e1.trans e2) (by unfold yV;rw[az h0];exact tg.t);rw[h0]at this;exact this
  ·refine aD U (by simp[h0]) ?_;refine θ<|γ U<|γ U<|γ U<|ε (aj ⟨_,rfl,hQ .ns h1 n1 e1 (by unfold yV;rw[ai h0];exact db.nil _ _)⟩)
 refine θ<|γ U<|γ U<|ε ?_;by_cases hj:j<0
 ·have e:kD ts j=eD [dN ts,8]:=by unfold kD;rw[az (Or.inl hj)]
  refine ν<|θ<|γ U<|al U U<|JV hC hb hg ht <| λh1 n1 e1=>γ U<|aP U U<|γ U<|σ U (by simp[hj])<|σ U (by simp[hj])<|σ U (by simp[hj])<|σ U (by simp[hj])<|cg U (by simp[hj]) U<|al U U<|qf hC.f42<|fx U <| λh2 n2 fB a2 e2=>al U U<|Ba hC.f41 (l:=[dN ts,8]) (ρ.whole (len:=2) (by omega) a2 rfl) (by simp)<|γ U<|ε ?_;exact tail (e1.trans e2) ⟨rfl,rfl,by rw[e];rfl,trivial⟩
 ·by_cases qA:(ts.length:Int)<=j
  ·have e:kD ts j=eD [dN ts,8]:=by unfold kD;rw[az (Or.inr qA)]
   refine ν<|θ<|γ U<|al U U<|JV hC hb hg ht <| λh1 n1 e1=>γ U<|aP U U<|γ U<|κ U (by simp[hj])<|γ U<|κ U (by simp[hj])<|γ U<|κ U (by simp[hj])<|aG U hs<|κ U (by simp[hj])<|fU U U<|bE U (by simp[hj]) U<|al U U<|qf hC.f42<|fx U <| λh2 n2 fB a2 e2=>al U U<|Ba hC.f41 (l:=[dN ts,8]) (ρ.whole (len:=2) (e:=29) (fz:=0) (by omega) (by rw[a2];simp[qA,eI]) U) (by simp)<|γ U<|ε ?_;exact tail (e1.trans e2) ⟨rfl,rfl,by rw[e];rfl,trivial⟩
  ·have e:kD ts j=eD [dN ts,0]:=by unfold kD;rw[ai (by omega)]
   refine ν<|θ<|γ U<|al U U<|JV hC hb hg ht <| λh1 n1 e1=>γ U<|aP U U<|γ U<|κ U (by simp[hj])<|γ U<|κ U (by simp[hj])<|γ U<|κ U (by simp[hj])<|aG U hs<|κ U (by simp[hj])<|fU U U<|bE U (by simp[hj]) U<|al U U<|qf hC.f42<|fx U <| λh2 n2 fB a2 e2=>al U U<|Ba hC.f41 (l:=[dN ts,0]) (ρ.whole (len:=2) (e:=29) (fz:=0) (by omega) (by rw[a2];simp[qA,eI]) U) (by simp)<|γ U<|ε ?_;exact tail (e1.trans e2) ⟨rfl,rfl,by rw[e];rfl,trivial⟩
theorem w22(hC:Cd C){t:V}{ts:List Nd}{j:Int}(hb:Bd ts)(ht:db h n t ts)(hQ:∀v h' n',Ext h n h' n'->db h' n' v (yV ts j)->Q (.u [v,.i .i64 (kD ts j)]) h' n'):τ C (.f 22 [] []) [t,.i .i64 j] h n Q:=by
 refine τ.go hC.f22 U ?_;have hlen:=hb.len;obtain⟨cs,hs⟩:=ht.sl;have tail:∀{h1 n1 E},Ext h n h1 n1->da [(k0,t),(k1,.i .i64 j),(k6,.i .i64 (kD ts j))] E->WC C U0 E h1 n1 (sq C U1 (fq [.t k4,.t k5] Q)):=by
  intro h1 n1 E e1 s;refine dB s ?_;refine θ<|γ U<|fT U U<|ε ?_;by_cases h0:kD ts j=0
  ·refine aE U (by simp[h0])<|ao ?_;obtain⟨i,rfl,hi,hr⟩:=XB hb h0;refine θ<|γ U<|γ U<|al U U<|w70 hC (ht.ext e1) hb hi hr.ord <| λv h2 n2 e2 tg=>γ U<|γ U<|ε (aj ⟨_,rfl,?_⟩);have:=hQ v h2 n2 (e1.trans e2) (by unfold yV;rw[az h0];exact tg.t);rw[h0]at this;exact this
  ·refine aD U (by simp[h0]) ?_;refine θ<|γ U<|γ U<|γ U<|ε (aj ⟨_,rfl,hQ .ns h1 n1 e1 (by unfold yV;rw[ai h0];exact db.nil _ _)⟩)
 refine θ<|γ U<|γ U<|ε ?_;by_cases hj:j<0
 ·have e:kD ts j=eD [dN ts,8]:=by unfold kD;rw[az (Or.inl hj)]
  refine ν<|θ<|γ U<|al U U<|JJ hC hb ht <| λh1 n1 e1=>γ U<|aP U U<|γ U<|σ U (by simp[hj])<|σ U (by simp[hj])<|σ U (by simp[hj])<|σ U (by simp[hj])<|cg U (by simp[hj]) U<|al U U<|pe hC<|fx U <| λh2 n2 fB a2 e2=>al U U<|CW hC.f48 (l:=[dN ts,8]) (ρ.whole (len:=2) (by omega) a2 rfl) (by simp)<|γ U<|ε ?_;exact tail (e1.trans e2) ⟨rfl,rfl,by rw[e];rfl,trivial⟩
 ·by_cases qA:(ts.length:Int)<=j
  ·have e:kD ts j=eD [dN ts,8]:=by unfold kD;rw[az (Or.inr qA)]
   refine ν<|θ<|γ U<|al U U<|JJ hC hb ht <| λh1 n1 e1=>γ U<|aP U U<|γ U<|κ U (by simp[hj])<|γ U<|κ U (by simp[hj])<|γ U<|κ U (by simp[hj])<|aG U hs<|κ U (by simp[hj])<|fU U U<|bE U (by simp[hj]) U<|al U U<|pe hC<|fx U <| λh2 n2 fB a2 e2=>al U U<|CW hC.f48 (l:=[dN ts,8]) (ρ.whole (len:=2) (e:=3) (fz:=0) (by omega) (by rw[a2];simp[qA,eI]) U) (by simp)<|γ U<|ε ?_;exact tail (e1.trans e2) ⟨rfl,rfl,by rw[e];rfl,trivial⟩
  ·have e:kD ts j=eD [dN ts,0]:=by unfold kD;rw[ai (by omega)]
   refine ν<|θ<|γ U<|al U U<|JJ hC hb ht <| λh1 n1 e1=>γ U<|aP U U<|γ U<|κ U (by simp[hj])<|γ U<|κ U (by simp[hj])<|γ U<|κ U (by simp[hj])<|aG U hs<|κ U (by simp[hj])<|fU U U<|bE U (by simp[hj]) U<|al U U<|pe hC<|fx U <| λh2 n2 fB a2 e2=>al U U<|CW hC.f48 (l:=[dN ts,0]) (ρ.whole (len:=2) (e:=3) (fz:=0) (by omega) (by rw[a2];simp[qA,eI]) U) (by simp)<|γ U<|ε ?_;exact tail (e1.trans e2) ⟨rfl,rfl,by rw[e];rfl,trivial⟩
end
section
variable {C:Nat->Option bP}{h:Hf}{n:K}{Q:V->Hf->K->Prop}
def ju(h:Hf)(n:K)(v:V)(l:List (List (List Nd))):Prop:=∃hs:List V,hs.length=l.length/\ρ h n 1 v l.length hs/\∀i (h1:i<hs.length) (h2:i<l.length),gU h n hs[i] l[i]
section
variable {v:V}{l:List (List (List Nd))}
theorem ju.get(a:ju h n v l){i:Nat}(hi:i<l.length):∃w,cD h false 1 (.p v.blk (v.off+i*1))=some w/\gU h n w l[i]:=by obtain⟨hs,h1,h2,h3⟩:=a;exact⟨hs[i]'(by omega),h2.get (by rw[ka];exact Nn (by omega)) 1,h3 i (by omega) hi⟩
theorem ju.ext{h':Hf}{n':K}(a:ju h n v l)(e:Ext h n h' n'):ju h' n' v l:=by obtain⟨hs,h1,h2,h3⟩:=a;exact⟨hs,h1,h2.ext e,λi g1 g2=>(h3 i g1 g2).ext e⟩
theorem ju.sl(a:ju h n v l):∃hs,ρ h n 1 v l.length hs:=⟨a.choose,a.choose_spec.2.1⟩
end
theorem w60(hC:Cd C){v:V}{l:List (List Nd)}(hl:gU h n v l)(hQ:Q (.b (decide (l.length=0))) h n):τ C (.f 60 [] []) [v] h n Q:=by
 refine τ.go hC.f60 U ?_;obtain⟨cs,hs⟩:=hl.sl;refine θ<|γ U<|ε ?_;refine θ<|γ U<|aG U hs<|bQ U U<|γ U<|ε (aj ⟨_,rfl,?_⟩);have e:decide ((l.length:Int)=0)=decide (l.length=0):=by simp
 rw[e];exact hQ
def emp(l:List (List (List Nd))):Bool:=l.any λx=>decide (x.length=0)
theorem akC(hC:Cd C){v:V}{l:List (List (List Nd))}(hl:ju h n v l)(hlen:l.length<1000000)(hQ:∀r:Int,decide (0<=r)=emp l->Q (.i .i64 r) h n):τ C (.f 139 [] []) [v,.f 60 [] []] h n Q:=by
 refine τ.go hC.f139 U ?_;obtain⟨cs,hs⟩:=hl.sl;refine θ<|γ U<|ε ?_;refine ν<|θ<|γ U<|aG U hs<|γ U<|ε ?_;have loop:∀(r i:Nat),l.length - i=r->i<=l.length->emp l=emp (l.drop i)->WC C Uv [(k0,v),(k1,.f 60 [] []),(k7,.i .i64 (l.length:Nat)),(k8,.i .i64 (i:Nat))] h n (blk 0 (sq C Uw (fq [.t k4] Q))):=by
  intro r
  induction r with
  | zero=>
   intro i hr hi he;have:i=l.length:=by omega
   subst this;refine aQ ?_;refine θ<|aP U U<|ε ?_;refine ν<|aE U (by simp)<|bW ?_;refine θ<|γ U<|ε (aj ⟨_,rfl,hQ _ (by rw[he,nH];rfl)⟩)
  | succ r ih=>
   intro i hr hi he;have ψ:i<l.length:=by omega
   obtain⟨w,hw,tw⟩:=hl.get ψ;have hd:emp (l.drop i)=(decide (l[i].length=0)||emp (l.drop (i+1))):=by rw[gi ψ];rfl
   refine aQ ?_;refine θ<|aP U U<|ε ?_;refine ν<|aD U (by simp<;>omega)<|ao ?_;refine ν<|aK<|θ<|γ U<|γ U<|ε ?_;refine θ<|γ U<|γ U<|γ U<|bh U U hs ψ<|χ U hw<|al U U<|w60 hC tw<|ε ?_;by_cases h0:l[i].length=0
   ·refine aD U (by simp[h0]) ?_;refine θ<|γ U<|γ U<|ε (aj ⟨_,rfl,hQ _ (by rw[he,hd];simp[h0])⟩)
   ·refine aE U (by simp[h0])<|ao ?_;refine aR<|cK U U ⟨by omega,by omega⟩<|γ U<|ε ?_;exact ae (ih (i+1) (by omega) (by omega) (by rw[he,hd];simp[h0])) ⟨rfl,rfl,rfl,rfl,trivial⟩
 exact aK<|ae (loop _ 0 rfl (by omega) U) ⟨rfl,rfl,rfl,rfl,trivial⟩
theorem w59(hC:Cd C){v:V}{l:List (List (List Nd))}(hl:ju h n v l)(hlen:l.length<1000000)(hQ:Q (.b (emp l)) h n):τ C (.f 59 [] []) [v,.f 60 [] []] h n Q:=by refine τ.go hC.f59 U ?_;refine θ<|γ U<|ε ?_;refine θ<|γ U<|γ U<|al U U<|akC hC hl hlen λr hr=>fU U U<|γ U<|ε<|aj ⟨_,rfl,?_⟩;rw[hr];exact hQ
def uy(l:List (List Nd)):List Nd:=rY ⟨19,[],[],[],[]⟩ l
theorem w63(hC:Cd C){v:V}{l:List (List Nd)}(hl:gU h n v l)(hk:Kd l)(hQ:∀v' h' n',Ext h n h' n'->TG h' n n' v' (uy l)->Q v' h' n'):τ C (.f 63 [] []) [v] h n Q:=by refine τ.go hC.f63 U ?_;refine θ<|γ U<|ε ?_;refine θ<|kl U<|γ U<|al U U<|w64 (x:=⟨19,[],[],[],[]⟩) (vv:=.ns) (kv:=.ns) hC hk hl (ρ.ns h n 2) U (by simp) <| λv' h' n' e t=>γ U<|ε<|aj ⟨_,rfl,hQ v' h' n' e t⟩
theorem w58(hC:Cd C){v:V}{l:List (List Nd)}(hl:gU h n v l)(hlen:l.length<1000000)(hb:∀i (hi:i<l.length),Bd l[i])(hg:Gl h n)(hQ:∀v' h' n',Ext h n h' n'->gh h' n' .i64 v' (l.map dN)->Q v' h' n'):τ C (.f 58 [] []) [v,.f 36 [] []] h n Q:=by
 refine τ.go hC.f58 U ?_;obtain⟨cs,hs⟩:=hl.sl;refine θ<|γ U<|ε ?_;refine θ<|γ U<|ε ?_;refine ν<|θ<|γ U<|aG U hs<|γ U<|ε ?_;have loop:∀(r i:Nat) (w:V) (h':Hf) (n':K),l.length - i=r->i<=l.length->Gr h n h' n' 29 1 w i (eI .i64 ((l.take i).map dN))->WC C Ut [(k1,.f 36 [] []),(k5,w),(k8,v),(k9,.i .i64 (l.length:Nat)),(aF,.i .i64 (i:Nat))] h' n' (blk 0 (sq C Uu (fq [.t k4] Q))):=by
  intro r
  induction r with
  | zero=>
   intro i w h' n' hr hi g;have:i=l.length:=by omega
   subst this;rw[fO]at g;refine aQ ?_;refine θ<|aP U U<|ε ?_;refine ν<|aE U (by simp)<|bW ?_;refine θ<|γ U<|γ U<|ε (aj ⟨_,rfl,hQ w h' n' g.ext ?_⟩);unfold gh;rw[lC];exact g.sl
  | succ r ih=>
   intro i w h' n' hr hi g;have ψ:i<l.length:=by omega
   obtain⟨u,hu,tu⟩:=(hl.ext g.ext).get ψ;refine aQ ?_;refine θ<|aP U U<|ε ?_;refine ν<|aD U (by simp<;>omega)<|ao ?_;refine ν<|aK<|θ<|bh U U (hs.ext g.ext) ψ<|χ U hu<|γ U<|ε ?_;refine aR<|γ U<|γ U<|γ U<|al U U<|JV hC (hb i ψ) (hg.ext g.ext) tu <| λh2 n2 e2=>fx (kT rfl rfl rfl) <| λh3 n3 lz a3 e3=>jK U (((g.on e2).on e3).own) U (ρ.whole (len:=1) (by omega) a3 rfl) (by omega) (by omega) (by omega) (by omega) U (((g.on e2).on e3).lt) <| λw4 h4 n4 o4 q4 nE s4=>γ U<|ε ?_;have g4:=((g.on e2).on e3).app o4 q4 nE s4;refine aR<|cK U U ⟨by omega,by omega⟩<|γ U<|ε ?_;refine ae (ih (i+1) w4 h4 n4 (by omega) (by omega) ?_) ⟨rfl,rfl,rfl,rfl,rfl,trivial⟩;rw[iy ψ,List.map_append,Hl];exact g4
 exact aK<|ae (loop _ 0 .ns h n rfl (by omega) (Gr.ns (Ext.refl _ _))) ⟨rfl,rfl,rfl,rfl,rfl,trivial⟩
end
section
variable {C:Nat->Option bP}{h:Hf}{n:K}{Q:V->Hf->K->Prop}
def tO(h0:Hf)(n0:K)(h:Hf)(n:K)(v:V)(l:List (List Nd))(hs:List V):Prop:=
 hs.length=l.length/\Gr h0 n0 h n 23 1 v l.length hs/\∀j (h1:j<hs.length) (h2:j<l.length),v≠.ns/\db h v.blk hs[j] l[j]
section
variable {h0 h4 h5:Hf}{n0 n4 n5:K}{v v5 w:V}{l:List (List Nd)}{hs:List V}{t:List Nd}
theorem tO.nil(e:Ext h0 n0 h n):tO h0 n0 h n .ns [] []:=⟨rfl,Gr.ns e,λj h1=>by simp at h1⟩
theorem tO.lt(a:tO h0 n0 h n v l hs):gU h n v l:=by obtain⟨h1,h2,h3⟩:=a;refine⟨hs,h1,h2.sl,λi g1 g2=>?_⟩;have:=h3 i g1 g2;exact this.2.ext (n':=n) ⟨h2.lt.elim (λe=>absurd e this.1) fZ,λ_ _=>rfl⟩
theorem tO.app(a:tO h0 n0 h n v l hs)(x:Ext h n h4 n4)(ht:db h5 n4 w t)(o5:gp h5 23 1 v5 (l.length+1) (hs++[w]))(q5:v5.blk=n4)(qK:n5.num=n4.num+1)(s5:∀b:K,b.num<n4.num->(v=.ns\/b.num≠v.blk.num)->h5 b=h4 b):tO h0 n0 h5 n5 v5 (l++[t]) (hs++[w]):=by
 obtain⟨h1,h2,h3⟩:=a;have g5:=(h2.on x).app o5 q5 qK s5;have NX:v5≠.ns:=by intro e;have:=o5.nil e;omega
 refine⟨by simp[h1],by rw[gX];exact g5,λj g1 g2=>⟨NX,?_⟩⟩;by_cases hj:j<hs.length
 ·rw[List.getElem_append_left hj,List.getElem_append_left (by omega)];obtain⟨a1,a2⟩:=h3 j hj (by omega);have iU:=h2.lt.resolve_left a1;have:=x.1;refine a2.ext ⟨by rw[q5];omega,λk hk=>?_⟩;rw[s5 k (by omega) (Or.inr (by omega)),x.2 k (by omega)]
 ·have fb:j=hs.length:=by simp at g1;omega
  subst fb;simp only[List.getElem_concat_length,h1,q5];exact ht
end
theorem w62(hC:Cd C){v:V}{l:List (List (List Nd))}(hl:ju h n v l)(hlen:l.length<1000000)(hk:∀i (hi:i<l.length),Kd l[i])(hQ:∀v' hs h' n',tO h n h' n' v' (l.map uy) hs->Q v' h' n'):τ C (.f 62 [] []) [v,.f 63 [] []] h n Q:=by
 refine τ.go hC.f62 U ?_;obtain⟨cs,hs⟩:=hl.sl;refine θ<|γ U<|ε ?_;refine θ<|γ U<|ε ?_;refine ν<|θ<|γ U<|aG U hs<|γ U<|ε ?_;have loop:∀(r i:Nat) (w:V) (us:List V) (h':Hf) (n':K),l.length - i=r->i<=l.length->tO h n h' n' w ((l.take i).map uy) us->WC C Ux [(k1,.f 63 [] []),(k5,w),(k8,v),(k9,.i .i64 (l.length:Nat)),(aF,.i .i64 (i:Nat))] h' n' (blk 0 (sq C Uy (fq [.t k4] Q))):=by
  intro r
  induction r with
  | zero=>
   intro i w us h' n' hr hi g;have:i=l.length:=by omega
   subst this;rw[fO]at g;refine aQ ?_;refine θ<|aP U U<|ε ?_;refine ν<|aE U (by simp)<|bW ?_;refine θ<|γ U<|γ U<|ε (aj ⟨_,rfl,hQ w us h' n' g⟩)
  | succ r ih=>
   intro i w us h' n' hr hi g;have ψ:i<l.length:=by omega
   have gr:=g.2.1;have qi:((l.take i).map uy).length=i:=by simp;omega
   rw[qi]at gr;obtain⟨u,hu,tu⟩:=(hl.ext gr.ext).get ψ;refine aQ ?_;refine θ<|aP U U<|ε ?_;refine ν<|aD U (by simp<;>omega)<|ao ?_;refine ν<|aK<|θ<|bh U U (hs.ext gr.ext) ψ<|χ U hu<|γ U<|ε ?_;refine aR<|γ U<|γ U<|γ U<|al U U<|w63 hC tu (hk i ψ) <| λv2 h2 n2 e2 tg=>fx (kT rfl tg.t.cells tg.t.one) <| λh3 n3 lz a3 e3=>jK U (((gr.on e2).on e3).own) U (ρ.whole (len:=1) (by omega) a3 rfl) (by omega) (by omega) (by omega) (by omega) (by simp only[bN,tg.t.one];rfl) (((gr.on e2).on e3).lt) <| λw4 h4 n4 o4 q4 nE s4=>γ U<|ε ?_;have GC:=gr.lt;have Fj:=e3.1;have g4:=g.app (e2.trans e3) (TG.skip (h':=h4) (n':=n3) tg (λb rf fM=>by rw[s4 b (by omega) (GC.imp id λh=>by omega),e3.2 b fM]) Fj).t (by rw[qi];exact o4) q4 nE s4;refine aR<|cK U U ⟨by omega,by omega⟩<|γ U<|ε ?_;refine ae (ih (i+1) w4 (us++[v2]) h4 n4 (by omega) (by omega) ?_) ⟨rfl,rfl,rfl,rfl,rfl,trivial⟩;rw[iy ψ,List.map_append];exact g4
 exact aK<|ae (loop _ 0 .ns [] h n rfl (by omega) (tO.nil (Ext.refl _ _))) ⟨rfl,rfl,rfl,rfl,rfl,trivial⟩
end
section
variable {C:Nat->Option bP}{h:Hf}{n:K}{Q:V->Hf->K->Prop}
def Wh(h:Hf)(lo hi:K)(w:V)(x:List (List Nd)):Prop:=∀g:Hf,(∀b:K,lo.num<=b.num->b.num<hi.num->g b=h b)->gU g hi w x
def FG(n0:K)(h:Hf)(v:V)(l:List (List Nd))(hs:List V):Prop:=∀j (h1:j<hs.length) (h2:j<l.length),TG h n0 v.blk hs[j] l[j]
section
variable {h0 h4 h5:Hf}{n0 n4 n5:K}{v v5 w:V}{l:List (List Nd)}{hs:List V}{t:List Nd}
theorem FG.app(a:tO h0 n0 h n v l hs)(b:FG n0 h v l hs)(x:Ext h n h4 n4)(ht:TG h5 n0 n4 w t)(q5:v5.blk=n4)(s5:∀b:K,b.num<n4.num->(v=.ns\/b.num≠v.blk.num)->h5 b=h4 b):FG n0 h5 v5 (l++[t]) (hs++[w]):=by
 intro j g1 g2;rw[q5];by_cases hj:j<hs.length
 ·have h1:=a.1;rw[List.getElem_append_left hj,List.getElem_append_left (by omega)];have ψ:=a.2.1.lt.resolve_left (a.2.2 j hj (by omega)).1;have:=x.1;exact(b j hj (by omega)).skip (λk _ hk=>by rw[s5 k (by omega) (Or.inr (by omega)),x.2 k (by omega)]) (by omega)
 ·have h1:=a.1;have fb:j=hs.length:=by simp at g1;omega
  subst fb;simp only[List.getElem_concat_length,h1];exact ht
theorem FG.wh(a:tO h0 n0 h n v l hs)(b:FG n0 h v l hs):Wh h n0 n v l:=by intro g hg;obtain⟨h1,h2,h3⟩:=a;refine⟨hs,h1,h2.sl.gq (h2.at_.imp id λe=>hg _ e.1 e.2) (Γ _),λj g1 g2=>?_⟩;have ψ:=h2.lt.resolve_left (h3 j g1 g2).1;exact((b j g1 g2).skip (λk k1 k2=>hg k k1 (by omega)) (fZ ψ)).t
end
theorem TG.low{lo wb:K}{v:V}{ts:List Nd}(a:TG h lo n v ts)(e:wb.num<=lo.num):TG h wb n v ts:=by obtain⟨m,h1,h2,h3⟩:=a;exact⟨m,h1,h2.imp id (gY e),λp hp=>⟨(h3 p hp).1.imp id (gY e),(h3 p hp).2.imp id (gY e)⟩⟩
theorem w17(hC:Cd C){v:V}{l:List (List Nd)}(hl:gU h n v l)(hlen:l.length<1000000)(hb:∀i (hi:i<l.length),Bd l[i])(hQ:∀v' h' n',Ext h n h' n'->Wh h' n n' v' l->Q v' h' n'):τ C (.f 17 [] []) [v] h n Q:=by
 refine τ.go hC.f17 U ?_;obtain⟨cs,hs⟩:=hl.sl;refine θ<|γ U<|ε ?_;refine θ<|γ U<|ε ?_;refine ν<|θ<|γ U<|ε ?_;have loop:∀(r i:Nat) (w:V) (us:List V) (h':Hf) (n':K),l.length - i=r->i<=l.length->tO h n h' n' w (l.take i) us->FG n h' w (l.take i) us->WC C Um [(k0,v),(k3,w),(k4,.i .i64 (i:Nat))] h' n' (blk 0 (sq C Un (fq [.t k2] Q))):=by
  intro r
  induction r with
  | zero=>
   intro i w us h' n' hr hi g b;have:i=l.length:=by omega
   subst this;rw[fO]at g b;refine aQ ?_;refine ν<|θ<|γ U<|γ U<|aG U (hs.ext g.2.1.ext)<|aP U U<|ε ?_;refine aE U (by simp)<|bW ?_;refine θ<|γ U<|γ U<|ε (aj ⟨_,rfl,hQ w h' n' g.2.1.ext (FG.wh g b)⟩)
  | succ r ih=>
   intro i w us h' n' hr hi g b;have ψ:i<l.length:=by omega
   have gr:=g.2.1;have qi:(l.take i).length=i:=by simp;omega
   rw[qi]at gr;obtain⟨u,hu,tu⟩:=(hl.ext gr.ext).get ψ;refine aQ ?_;refine ν<|θ<|γ U<|γ U<|aG U (hs.ext gr.ext)<|aP U U<|ε ?_;refine aD U (by simp<;>omega)<|ao ?_;refine ν<|aK<|aR<|γ U<|γ U<|γ U<|bh U U (hs.ext gr.ext) ψ<|χ U hu<|al U U<|w9g hC tu (hb i ψ) <| λv2 h2 n2 e2 tg=>fx (kT rfl tg.t.cells tg.t.one) <| λh3 n3 lz a3 e3=>jK U (((gr.on e2).on e3).own) U (ρ.whole (len:=1) (by omega) a3 rfl) (by omega) (by omega) (by omega) (by omega) (by simp only[bN,tg.t.one];rfl) (((gr.on e2).on e3).lt) <| λw4 h4 n4 o4 q4 nE s4=>γ U<|ε ?_;have GC:=gr.lt;have Fj:=e3.1;have l0:=gr.ext.1;have t4:=(TG.skip (h':=h4) (n':=n3) tg (λb rf fM=>by rw[s4 b (by omega) (GC.imp id λh=>by omega),e3.2 b fM]) Fj).low l0;have g4:=g.app (e2.trans e3) t4.t (by rw[qi];exact o4) q4 nE s4;have b4:=FG.app g b (e2.trans e3) t4 q4 s4;refine aR<|γ U<|cK U U ⟨by omega,by omega⟩<|γ U<|ε ?_;refine ae (ih (i+1) w4 (us++[v2]) h4 n4 (by omega) (by omega) ?_ ?_) ⟨rfl,rfl,rfl,trivial⟩
   ·rw[iy ψ];exact g4
   ·rw[iy ψ];exact b4
 exact aK<|ae (loop _ 0 .ns [] h n rfl (by omega) (tO.nil (Ext.refl _ _)) (λj g=>by simp at g)) ⟨rfl,rfl,rfl,trivial⟩
def AV(l:List (List Nd)):Bool:=l.all ph&&decide (l.length<=20)
theorem w16(hC:Cd C){v:V}{l:List (List Nd)}(hl:gU h n v l)(hlen:l.length<1000000)(hb:∀i (hi:i<l.length),Fc l[i])(hQ:Q (.b (AV l)) h n):τ C (.f 16 [] []) [v] h n Q:=by
 refine τ.go hC.f16 U ?_;obtain⟨cs,hs⟩:=hl.sl;refine θ<|γ U<|ε ?_;refine ν<|θ<|γ U<|ε ?_;have loop:∀(r i:Nat),l.length - i=r->i<=l.length->l.all ph=(l.drop i).all ph->WC C Uk [(k0,v),(k3,.i .i64 (i:Nat))] h n (blk 0 (sq C Ul (fq [.t k2] Q))):=by
  intro r
  induction r with
  | zero=>
   intro i hr hi he;have:i=l.length:=by omega
   subst this;refine aQ ?_;refine ν<|θ<|γ U<|γ U<|aG U hs<|aP U U<|ε ?_;refine aE U (by simp)<|bW ?_;refine θ<|γ U<|aG U hs<|oW U U<|γ U<|ε (aj ⟨_,rfl,?_⟩);have e:decide ((l.length:Int)<=20)=AV l:=by unfold AV;rw[he,nH];simp;omega
   rw[e];exact hQ
  | succ r ih=>
   intro i hr hi he;have ψ:i<l.length:=by omega
   obtain⟨w,hw,tw⟩:=hl.get ψ;have hd:(l.drop i).all ph=(ph l[i]&&(l.drop (i+1)).all ph):=by rw[gi ψ];rfl
   refine aQ ?_;refine ν<|θ<|γ U<|γ U<|aG U hs<|aP U U<|ε ?_;refine aD U (by simp<;>omega)<|ao ?_;refine ν<|aK<|θ<|γ U<|γ U<|bh U U hs ψ<|χ U hw<|al U U<|w6 hC tw (hb i ψ)<|dR U<|ε ?_;by_cases h0:ph l[i]=true
   ·refine aE U (by simp[h0])<|ao ?_;refine aR<|γ U<|cK U U ⟨by omega,by omega⟩<|γ U<|ε ?_;exact ae (ih (i+1) (by omega) (by omega) (by rw[he,hd,h0];rfl)) ⟨rfl,rfl,trivial⟩
   ·simp only[Dl]at h0;refine aD U (by simp[h0]) ?_;refine θ<|γ U<|ε (aj ⟨_,rfl,?_⟩);have e:AV l=false:=by unfold AV;rw[he,hd,h0];rfl
    rw[e]at hQ;exact hQ
 exact aK<|ae (loop _ 0 rfl (by omega) U) ⟨rfl,rfl,trivial⟩
end
end Go.Ev.X
namespace Go.Ev.X
open Go Go.Ev
section
variable {C:Nat->Option bP}{E:Env}{h:Hf}{n:K}{q:Env->Hf->K->Prop}{l:List AO}{ah:Nat}{k:V->Hf->K->Prop}
theorem XC{x:aJ}(hx:ge E x=some .ns)(hk:k (.i .i64 0) h n):SO C (.cap none x) E h n k:=
 gn (λ_ _ _ _=>rfl) (λT H hT hH=>by simp only[simple,hT.ge hx]) hk
theorem akD{x y:aJ}{ik:IntKind}(hx:ge E x=some .ns)(hy:ge E y=some (.i ik 0))(hk:k .ns h n):SO C (.sli (.sl 1) x none (some y) none) E h n k:=
 gn (λ_ _ _ _=>rfl) (λT H hT hH=>by
  have e:dA T 0 (some y)=some 0:=by simp only[dA,hT.ge hy];rfl
  simp only[simple,hT.ge hx,nq,e];rfl) hk
theorem akE{x y:aJ}{ik:IntKind}{b:K}{m:Nat}(hx:ge E x=some (.su b 0 m 1))(hy:ge E y=some (.i ik 0))(hk:k (.su b 0 0 1) h n):SO C (.sli (.sl 1) x none (some y) none) E h n k:=
 gn (λ_ _ _ _=>rfl) (λT H hT hH=>by
  have e:∀d,dA T d (some y)=some 0:=λd=>by simp only[dA,hT.ge hy];rfl
  have e0:dA T 0 none=some 0:=rfl;simp only[simple,hT.ge hx,nq,e,e0];have h1:Nat.ble 0 m=true:=jE (rB m);simp only[h1];rfl) hk
theorem akF{e bytes m:Nat}{zl:List V}{s x:aJ}{ik:IntKind}(hs:ge E s=some .ns)(hx:ge E x=some (.i ik (m:Nat)))(h1:m*bytes<=1000000000)(h2:bytes<=100000)(h3:m<=1000000000)(hm:0<m)
 (hk:k (.su n 0 m 1) (hp h n (some (.c (gu zl m) e 0))) n.succ):SO C (.app e 1 bytes zl true s x) E h n k:=
 qw (λ_ _ _ _=>rfl) λT H hT hH=>by
  have po:(!(Nat.ble (Nat.mul (Nat.add (V.len .ns) m) bytes) 1000000000&&Nat.ble bytes 100000&&Nat.ble (Nat.add (V.len .ns) m) 1000000000))=false:=room (l:=0) (m:=m) (bytes:=bytes) (by simpa using h1) h2 (by omega);refine⟨.su n 0 m 1,H.put (some (.c (gu zl m) e 0)) n,n.succ,?_,by rw[jr,hH];exact hk⟩;have hb:Nat.beq m 0=false:=by rw[dD];simp;omega
  have h4:=hT.ge hx;simp only[simple,hT.ge hs,h4,cond_true];show ra H n e 1 bytes .ns m (gu zl m)=_;simp only[ra,po,hb,cond_false,j4]
theorem akG{e bytes m:Nat}{zl new r:List V}{s x:aJ}{b:K}{v:V}(hs:ge E s=some (.su b 0 0 1))(hb:h b=some (.c r e 0))(hx:ge E x=some v)(a:ρ h n 1 v m new)(h1:m*bytes<=1000000000)(h2:bytes<=100000)(h3:m<=1000000000)(eF:bN new=true)
 (iD:m=0->k (.su b 0 0 1) h n)(hk:0<m->k (.su n 0 m 1) (hp (hp h b none) n (some (.c new e 0))) n.succ):SO C (.app e 1 bytes zl false s x) E h n k:=
 qw (λ_ _ _ _=>rfl) λT H hT hH=>by
  have po:(!(Nat.ble (Nat.mul (Nat.add (V.len (.su b 0 0 1)) m) bytes) 1000000000&&Nat.ble bytes 100000&&Nat.ble (Nat.add (V.len (.su b 0 0 1)) m) 1000000000))=false:=room (l:=0) (m:=m) (bytes:=bytes) (by simpa using h1) h2 (by omega);by_cases hm:m=0
  ·refine⟨.su b 0 0 1,H,n,?_,by rw[hH];exact iD hm⟩;have hb:Nat.beq m 0=true:=by rw[dD];simpa using hm
   simp only[simple,hT.ge hs,hT.ge hx,a.elems hH,cond_false,ra,po,hb,cond_true]
  ·refine⟨.su n 0 m 1,(H.put none b).put (some (.c new e 0)) n,n.succ,?_,by rw[jr,jr,hH];exact hk (by omega)⟩;have eJ:Nat.beq m 0=false:=by rw[dD];simpa using hm
   have OE:H.get b=some (.c r e 0):=by rw[hH];exact hb
   have e1:Nat.beq e e=true:=by rw[dD];simp
   have e2:dt r (Nat.add 0 (Nat.mul 0 1)) (Nat.mul 0 1)=some []:=by show dt r 0 0=some [];cases r<;>rfl
   simp only[simple,hT.ge hs,hT.ge hx,a.elems hH,cond_false,ra,po,eJ,OE,e1,eF];have e3:dt r 0 (Nat.mul 0 1)=some []:=e2;have e4:Nat.ble 0 (Nat.add 0 (Nat.mul 0 1))=true:=rfl;have e5:Nat.beq 1 1=true:=rfl;simp only[e3,e4,e5,nN,cond_true,j4,List.nil_append,Nat.add];have e6:Nat.add 0 m=m:=hY m
   first | rfl | (simp only[e6];rfl) | (simp;done)
end
end Go.Ev.X
namespace Go.Ev.X
open Go Go.Ev
attribute [local irreducible] WC WO WD SO τ
section
variable {C:Nat->Option bP}{h:Hf}{n:K}{Q:V->Hf->K->Prop}
def Ac(h:Hf)(n:K)(v:V)(len:Nat)(cs:List V):Prop:=
 (v=.ns/\len=0/\cs=[])\/(∃b r,v=.su b 0 0 1/\len=0/\cs=[]/\b.num<n.num/\h b=some (.c r 23 0))\/(0<len/\cs.length=len/\∃b,v=.su b 0 len 1/\b.num<n.num/\h b=some (.c cs 23 0))
theorem Ac.sl{v:V}{len:Nat}{cs:List V}(a:Ac h n v len cs):ρ h n 1 v len cs:=by
 rcases a with ⟨rfl,rfl,rfl⟩ | ⟨b,r,rfl,rfl,rfl,h1,h2⟩ | ⟨h1,h2,b,rfl,h3,h4⟩
 ·exact ρ.ns h n 1
 ·exact⟨rfl,Or.inr ⟨⟨b,0,0,Or.inr U,h1⟩,r,by simp[V.blk,ja,h2,O.row],by cases r<;>rfl⟩⟩
 ·exact(show gp h 23 1 (.su b 0 len 1) len cs from⟨by omega,Or.inr ⟨h1,b,rfl,h4⟩⟩).sl (Or.inr h3)
theorem akH{E:Env}{q:Env->Hf->K->Prop}{l:List AO}{ah:Nat}{d n0:K}{bytes m len:Nat}{zl new cs:List V}{s x:aJ}{u v:V}(hs:ge E s=some v)(ha:Ac h n v len cs)(zb:v=.ns\/n0.num<=v.blk.num)(tM:n0.num<=n.num)(hx:ge E x=some u)(a:ρ h n 1 u m new)(h1:(len+m)*bytes<=1000000000)(h2:bytes<=100000)(h3:len+m<=1000000000)(eF:bN new=true)
 (hk:∀v' h' n',Ac h' n' v' (len+m) (cs++new)->(v'=.ns\/n0.num<=v'.blk.num)->n.num<=n'.num->(∀k:K,k.num<n0.num->h' k=h k)->WO C l ((d,v')::E) h' n' q):WO C (⟨some d,.app 23 1 bytes zl false s x,none,ah⟩::l) E h n q:=by
 have wB:new.length=m:=by have:=a.1;omega
 rcases ha with ⟨rfl,rfl,rfl⟩ | ⟨b,r,rfl,rfl,rfl,g1,g2⟩ | ⟨g1,g2,b,rfl,g3,g4⟩
 ·refine cX (QA hs hx a (by simpa using h1) h2 (by omega) (λe=>?_) λhm=>?_)
  ·subst e;have:new=[]:=nM.1 wB;subst this;exact hk .ns h n (Or.inl ⟨rfl,rfl,rfl⟩) (Or.inl U) (Γ _) λ_ _=>rfl
  ·refine hk _ _ _ (Or.inr (Or.inr ⟨by omega,by simp[wB],n,by rw[hY],by rw[K.fH];omega,by simp[hp]⟩)) (Or.inr tM) (by rw[K.fH];omega) λk hk=>mh _ _ (pN (by omega))
 ·have eJ:n0.num<=b.num:=zb.elim (λe=>by cases e) id;refine cX (akG hs g2 hx a (by simpa using h1) h2 (by omega) eF (λe=>?_) λhm=>?_)
  ·subst e;have:new=[]:=nM.1 wB;subst this;exact hk _ h n (Or.inr (Or.inl ⟨b,r,rfl,rfl,rfl,g1,g2⟩)) (Or.inr eJ) (Γ _) λ_ _=>rfl
  ·refine hk _ _ _ (Or.inr (Or.inr ⟨by omega,by simp[wB],n,by rw[hY],by rw[K.fH];omega,by simp[hp]⟩)) (Or.inr tM) (by rw[K.fH];omega) λk hk=>?_;rw[mh _ _ (pN (by omega)),mh _ _ (pN (by omega))]
 ·have eJ:n0.num<=b.num:=zb.elim (λe=>by cases e) id;have ow:gp h 23 1 (.su b 0 len 1) len cs:=⟨by omega,Or.inr ⟨g1,b,rfl,g4⟩⟩;by_cases hm:m=0
  ·subst hm;have:new=[]:=nM.1 wB;subst this;refine cX (qw (λ_ _ _ _=>rfl) λT H hT hH=>⟨.su b 0 len 1,H,n,?_,?_⟩)
   ·have po:(!(Nat.ble (Nat.mul (Nat.add (V.len (.su b 0 len 1)) 0) bytes) 1000000000&&Nat.ble bytes 100000&&Nat.ble (Nat.add (V.len (.su b 0 len 1)) 0) 1000000000))=false:=room (l:=len) (m:=0) (bytes:=bytes) h1 h2 h3;have hb:Nat.beq 0 0=true:=rfl;simp only[simple,hT.ge hs,hT.ge hx,a.elems hH,cond_false,ra,po,hb,cond_true]
   ·rw[hH];simp only[List.append_nil,j8]at hk;exact hk _ h n (Or.inr (Or.inr ⟨g1,g2,b,rfl,g3,g4⟩)) (Or.inr eJ) (Γ _) λ_ _=>rfl
  ·refine jK hs ow hx a h1 h2 h3 (by omega) eF (Or.inr g3) λv' h' n' o q1 q2 s1=>?_;rcases o.2 with g | ⟨_,b',e1,e2⟩
   ·omega
   ·refine hk v' h' n' (Or.inr (Or.inr ⟨by omega,by simp;omega,b',e1,?_,e2⟩)) (Or.inr (by rw[q1];exact tM)) (by omega) λk hk=>s1 k (by omega) (Or.inr (by show k.num≠b.num;omega));have:v'.blk=b':=by rw[e1];rfl
    rw[←this,q1];omega
theorem akI(hC:Cd C){m:Nat}(hm:m<1000000)(hQ:∀v h' n',Ac h' n' v 0 []->(v=.ns\/n.num<=v.blk.num)->Ext h n h' n'->Q v h' n'):τ C (.f 138 [] []) [.ns,.i .i64 (m:Nat)] h n Q:=by
 refine τ.go hC.f138 U ?_;refine θ<|γ U<|ε ?_;refine ν<|θ<|γ U<|aP U U<|ε ?_;refine aE U (by simp<;>omega)<|ao ?_;refine ν<|θ<|γ U<|γ U<|cX<|XC U<|γ U<|aG U (ρ.ns h n 1)<|kQ U U (show(0:Int) - ((0:Nat):Int)=0 by omega) ⟨by omega,by omega⟩<|kQ U U (show(m:Int) - 0=(m:Int) by omega) ⟨by omega,by omega⟩<|γ U<|ε ?_;refine θ<|γ U<|cQ U U<|ε ?_;by_cases h0:m=0
 ·refine aE U (by simp[h0])<|ao ?_;refine θ<|γ U<|γ U<|ε (aj ⟨_,rfl,hQ .ns h n (Or.inl ⟨rfl,rfl,rfl⟩) (Or.inl U) (Ext.refl _ _)⟩)
 ·refine aD U (by simp<;>omega) ?_;refine aR<|γ U<|γ U<|cX<|XC U<|cX<|akD U U<|γ U<|cX<|akF U U (by omega) (by omega) (by omega) (by omega)<|γ U<|aG U (ρ.ns h n 1)<|cX<|akE U U<|γ U<|ε ?_;refine θ<|γ U<|γ U<|ε (aj ⟨_,rfl,hQ _ _ _ (Or.inr (Or.inl ⟨n,_,rfl,rfl,rfl,by rw[K.fH];omega,gw _ _ _⟩)) (Or.inr (Γ _)) ((Ext.refl h n).new _)⟩)
end
section
variable {C:Nat->Option bP}{h:Hf}{n:K}{Q:V->Hf->K->Prop}
theorem XD{α:Type}{l:List (List α)}{i:Nat}(hi:i<l.length):(l.take (i+1)).flatten=(l.take i).flatten++l[i]:=by rw[iy hi,List.flatten_append];simp only[List.flatten_cons,List.flatten_nil,List.append_nil]
theorem XE{α:Type}:∀(l:List (List α)) (i:Nat),(l.take i).flatten.length<=l.flatten.length:=by
 intro l
 induction l with
 | nil=>intro i;simp
 | cons a l ih=>intro i;cases i with | zero=>simp | succ i=>have:=ih i;simp only[sG,List.flatten_cons,gX];omega
theorem w57(hC:Cd C){v:V}{l:List (List (List Nd))}(hl:ju h n v l)(hlen:l.length<1000000)(M4:l.flatten.length<1000000)(hQ:∀v' h' n',Ext h n h' n'->gU h' n' v' l.flatten->Q v' h' n'):τ C (.f 57 [] []) [v] h n Q:=by
 refine τ.go hC.f57 U ?_;obtain⟨cs,hs⟩:=hl.sl;refine θ<|γ U<|ε ?_;refine θ<|γ U<|ε ?_;refine ν<|θ<|γ U<|aG U hs<|γ U<|ε ?_;have akJ:∀(r i:Nat) (w:V) (us:List V) (h':Hf) (n':K),l.length - i=r->i<=l.length->Ext h n h' n'->Ac h' n' w (l.take i).flatten.length us->(w=.ns\/n.num<=w.blk.num)->(∀j (h1:j<us.length) (h2:j<(l.take i).flatten.length),db h n us[j] (l.take i).flatten[j])->us.length=(l.take i).flatten.length->WC C Uq [(k6,w),(bH,v),(bU,.i .i64 (l.length:Nat)),(bX,.i .i64 (i:Nat))] h' n' (blk 2 (sq C Ur (fq [.t k2] Q))):=by
  intro r
  induction r with
  | zero=>
   intro i w us h' n' hr hi hx ha zb he FC;have:i=l.length:=by omega
   subst this;rw[fO]at ha;simp only[fO]at he FC;refine aQ ?_;refine θ<|aP U U<|ε ?_;refine ν<|aE U (by simp)<|bW ?_;refine θ<|γ U<|γ U<|ε (aj ⟨_,rfl,hQ w h' n' hx ⟨us,FC,ha.sl,λj g1 g2=>(he j g1 g2).ext hx⟩⟩)
  | succ r ih=>
   intro i w us h' n' hr hi hx ha zb he FC;have ψ:i<l.length:=by omega
   have FH:=XD ψ;have hle:=XE l (i+1);rw[FH,gX]at hle;obtain⟨u,hu,lu⟩:=(hl.ext hx).get ψ;obtain⟨u0,hu0,ls0⟩:=hl.get ψ;obtain⟨xs,x1,x2,x3⟩:=hl;obtain⟨ys,y1,y2,y3⟩:=x3 i (by omega) ψ;have hu2:cD h' false 1 (.p v.blk (v.off+i*1))=some xs[i]:=(x2.ext hx).get (by rw[ka];exact Nn (by omega)) 1;have eF:bN ys=true:=by
    have:∀(zs:List V),(∀j (hj:j<zs.length),zs[j].one=true)->bN zs=true:=by
     intro zs
     induction zs with
     | nil=>intro _;rfl
     | cons z zs F5=>intro hz;have h0:z.one=true:=hz 0 (by simp);simp only[bN,h0,Bp];exact F5 λj hj=>hz (j+1) (by simpa using hj)
    exact this ys λj hj=>(y3 j hj (by omega)).one
   refine aQ ?_;refine θ<|aP U U<|ε ?_;refine ν<|aD U (by simp<;>omega)<|ao ?_;refine ν<|aK<|θ<|bh U U (hs.ext hx) ψ<|χ U hu2<|γ U<|ε ?_;refine aR<|γ U<|γ U<|akH (n0:=n) U ha zb hx.1 rfl (y2.ext hx) (by omega) (by omega) (by omega) eF λw' h2 n2 a2 g2 fB s2=>γ U<|ε ?_;refine aR<|cK U U ⟨by omega,by omega⟩<|γ U<|ε ?_;refine ae (ih (i+1) w' (us++ys) h2 n2 (by omega) (by omega) ⟨gY hx.1 fB,λk hk=>by rw[s2 k hk,hx.2 k hk]⟩ (by rw[FH,gX];exact a2) g2 ?_ (by rw[FH,gX,gX];omega)) ⟨rfl,rfl,rfl,rfl,trivial⟩;intro j g1 g2;simp only[FH];by_cases hj:j<us.length
   ·rw[List.getElem_append_left hj,List.getElem_append_left (by omega)];exact he j hj (by omega)
   ·rw[List.getElem_append_right (by omega),List.getElem_append_right (by omega)];simp only[FC];exact y3 _ _ _
 have akK:∀(r i:Nat),l.length - i=r->i<=l.length->WC C Uo [(k0,v),(k3,.i .i64 ((l.take i).flatten.length:Nat)),(k9,v),(aF,.i .i64 (l.length:Nat)),(aH,.i .i64 (i:Nat))] h n (blk 0 (sq C Us (fq [.t k2] Q))):=by
  intro r
  induction r with
  | zero=>
   intro i hr hi;have:i=l.length:=by omega
   subst this;rw[fO];refine aQ ?_;refine θ<|aP U U<|ε ?_;refine ν<|aE U (by simp)<|bW ?_;refine θ<|γ U<|al U U<|akI hC M4 λw h2 n2 a2 g2 e2=>γ U<|ε ?_;refine ν<|θ<|γ U<|aG U hs<|γ U<|ε ?_;exact aK<|ae (akJ _ 0 w [] h2 n2 rfl (by omega) e2 a2 g2 (λj h1=>by simp at h1) U) ⟨rfl,rfl,rfl,rfl,trivial⟩
  | succ r ih=>
   intro i hr hi;have ψ:i<l.length:=by omega
   have FH:=XD ψ;have hle:=XE l (i+1);rw[FH,gX]at hle;obtain⟨u,hu,lu⟩:=hl.get ψ;obtain⟨ys,y2⟩:=lu.sl;refine aQ ?_;refine θ<|aP U U<|ε ?_;refine ν<|aD U (by simp<;>omega)<|ao ?_;refine ν<|aK<|θ<|bh U U hs ψ<|χ U hu<|γ U<|ε ?_;refine θ<|γ U<|γ U<|aG U y2<|kp U U (show((l.take i).flatten.length:Int)+(l[i].length:Int)=((l.take (i+1)).flatten.length:Nat) by rw[FH,gX];rfl) (⟨by omega,by rw[FH,gX];omega⟩)<|γ U<|ε ?_;refine θ<|γ U<|aP U U<|ε ?_;refine aE U (by simp<;>omega)<|ao ?_;refine aR<|cK U U ⟨by omega,by omega⟩<|γ U<|ε ?_;exact ae (ih (i+1) (by omega) (by omega)) ⟨rfl,rfl,rfl,rfl,rfl,trivial⟩
 exact aK<|ae (akK _ 0 rfl (by omega)) ⟨rfl,rfl,rfl,rfl,rfl,trivial⟩
end
end Go.Ev.X
namespace Go.Ev.X
open Go Go.Ev
def Bn(x:Nd):Prop:=x.kids.length<1000000/\x.name.length<1000000/\x.vars.length<1000/\∀v∈x.vars,v.1.length<10000000
theorem Bd.of{ts:List Nd}(hl:ts.length<100000)(h:∀x∈ts,Bn x):Bd ts:=
 ⟨hl,λi hi=>(h _ (dU hi)).1,λi hi=>(h _ (dU hi)).2.1,λi hi=>(h _ (dU hi)).2.2.1,λi hi=>(h _ (dU hi)).2.2.2⟩
theorem Bd.bn{ts:List Nd}(h:Bd ts):∀x∈ts,Bn x:=by intro x hx;obtain⟨i,hi,rfl⟩:=lB hx;exact⟨h.qg i hi,h.nm i hi,h.vl i hi,h.vn i hi⟩
def KR(t:List Nd):Prop:=0<t.length/\∀x∈t,∀k∈x.kids,0<=k/\k<(t.length:Int)
theorem Rt.kr{ts:List Nd}(r:Rt ts):KR ts:=by refine⟨r.pos,λx hx k hk=>?_⟩;obtain⟨i,hi,rfl⟩:=lB hx;have:=EY hi (r.ord i hi) k hk;omega
theorem akL:∀(l:List (List Nd)) (s:List Nd×List Int),(∀y∈s.1,Bn y)->(∀t∈l,∀y∈t,Bn y)->∀y∈(l.foldl pC s).1,Bn y:=by
 intro l
 induction l with
 | nil=>intro s h _;exact h
 | cons t l ih=>
  intro s h g;refine ih (pC s t) (λy hy=>?_) λu hu=>g u (by simp[hu]);rcases kc.1 hy with e | e
  ·exact h y e
  ·obtain⟨z,hz,rfl⟩:=List.mem_map.1 e;have:=g t (by simp) z hz;exact⟨by show(z.kids.map _).length<_;rw[lC];exact this.1,this.2⟩
theorem akM:∀(l:List (List Nd)) (s:List Nd×List Int),(∀y∈s.1,∀k∈y.kids,0<=k/\k<(s.1.length:Int))->(∀k∈s.2,0<=k/\k<(s.1.length:Int))->(∀t∈l,KR t)->(∀y∈(l.foldl pC s).1,∀k∈y.kids,0<=k/\k<((l.foldl pC s).1.length:Int))/\(∀k∈(l.foldl pC s).2,0<=k/\k<((l.foldl pC s).1.length:Int)):=by
 intro l
 induction l with
 | nil=>intro s h1 h2 _;exact⟨h1,h2⟩
 | cons t l ih=>
  intro s h1 h2 g;have hl:(pC s t).1.length=s.1.length+t.length:=by simp[pC]
  have gt:=g t (by simp);refine ih (pC s t) (λy hy k hk=>?_) (λk hk=>?_) λu hu=>g u (by simp[hu])
  ·rw[hl];rcases kc.1 hy with e | e
   ·have:=h1 y e k hk;omega
   ·obtain⟨z,hz,rfl⟩:=List.mem_map.1 e;obtain⟨k',gD,rfl⟩:=List.mem_map.1 (show k∈z.kids.map _ from hk);have:=gt.2 z hz k' gD;omega
  ·rw[hl];rcases kc.1 hk with e | e
   ·have:=h2 k e;omega
   ·rw[mN]at e;have:=gt.1;omega
theorem IX(x:Nd)(l:List (List Nd)):(rY x l).length=lens l+1:=by unfold rY;simp[(qQ l).1]
theorem XF{x:Nd}{l:List (List Nd)}(hs:lens l<99999)(hl:l.length<1000000)(hn:x.name.length<1000000)(hv:x.vars.length<1000)(Bb:∀v∈x.vars,v.1.length<10000000)(hb:∀t∈l,Bd t):Bd (rY x l):=by
 refine Bd.of (by rw[IX];omega) λy hy=>?_;rcases kc.1 hy with e | e
 ·exact akL l ([],[]) (λy hy=>by cases hy) (λt ht=>(hb t ht).bn) y e
 ·rw[mN]at e;subst e;exact⟨by show(fg l).2.length<_;rw[(qQ l).2];exact hl,hn,hv,Bb⟩
theorem akN{x:Nd}{l:List (List Nd)}(h:∀t∈l,KR t):KR (rY x l):=by
 have h1:=akM l ([],[]) (λy hy=>by cases hy) (λk hk=>by cases hk) h;have JF:=(qQ l).1;refine⟨by rw[IX];omega,λy hy k hk=>?_⟩;rw[IX];have e0:(l.foldl pC ([],[])).1.length=lens l:=JF;rcases kc.1 hy with e | e
 ·have:=h1.1 y e k hk;omega
 ·rw[mN]at e;subst e;have:=h1.2 k hk;omega
end Go.Ev.X
namespace Go.Ev.X
open Go Go.Ev
attribute [local irreducible] WC WO WD SO τ
section
variable {C:Nat->Option bP}{h:Hf}{n:K}{Q:V->Hf->K->Prop}
def qT(op:Int)(vars:List (S×S))(l:List (List (List Nd)))(body:List Nd):List Nd:=rY ⟨op,[66,111,111,108],[],vars,[]⟩ (l.map uy++[body])
def NY(ts:List Nd):S:=(ts.getLast?.map (·.sort)).getD []
def q1(l:List (List (List Nd)))(body:List Nd):Int:=eD (dN body::l.flatten.map dN)
def qE(op:Int)(vars:List (S×S))(l:List (List (List Nd)))(body:List Nd):Int:=
 if op=17\/op=18 then if q1 l body=0 then if emp l=true then 2 else if NY body=[66,111,111,108] then dN (qT op vars l body) else 13 else q1 l body else 11
def qV(op:Int)(vars:List (S×S))(l:List (List (List Nd)))(body:List Nd):List Nd:=if qE op vars l body=0 then qT op vars l body else []
structure QB(vars:List (S×S))(l:List (List (List Nd)))(body:List Nd):Prop where
 len:l.length<=4
 each:∀x∈l,x.length<=4
 bd:∀x∈l,∀t∈x,Bd t
 body:Bd body
 vl:vars.length<1000
 vn:∀v∈vars,v.1.length<10000000
theorem IY{b:Nat}:∀{l:List (List Nd)},(∀t∈l,t.length<=b)->lens l<=l.length*b
 | [],_=>rB _
 | t::l,h=>by have:=IY (b:=b) (l:=l) λu hu=>h u (by simp[hu]);have:=h t (by simp);simp only[lens,fG,iO];omega
theorem XG:∀{l:List Int},eD l=0->∀e∈l,e=0
 | [],_,e,he=>by cases he
 | a::l,h,e,he=>by
  unfold eD at h;by_cases h0:a=0
  ·rw[az h0]at h;rcases fY.1 he with rfl | he
   ·exact h0
   ·exact XG h e he
  ·rw[ai h0]at h;exact absurd h h0
theorem akO(a:Int)(l:List Int):eD [a,eD l]=eD (a::l):=by rw[AE,eD];by_cases h:a=0<;>simp[h]
theorem XH:∀{l:List (List (List Nd))},(∀x∈l,x.length<=4)->l.flatten.length<=l.length*4
 | [],_=>Γ _
 | x::l,h=>by have:=XH (l:=l) λu hu=>h u (by simp[hu]);have:=h x (by simp);simp only[List.flatten_cons,gX,fG];omega
section
variable {op:Int}{vars:List (S×S)}{l:List (List (List Nd))}{body:List Nd}
theorem QB.flat(b:QB vars l body):l.flatten.length<=16:=by have:=XH b.each;have:=b.len;omega
theorem QB.fbd(b:QB vars l body):∀t∈l.flatten,Bd t:=λt ht=>by obtain⟨x,hx,h⟩:=List.mem_flatten.1 ht;exact b.bd x hx t h
def Fin(t:List Nd):Prop:=Bd t/\KR t/\t.length<=2000
theorem Fin.of{t:List Nd}(hb:Bd t)(h:dN t=0):Fin t:=⟨hb,(NP hb h).1.kr,(NP hb h).2.1⟩
theorem QB.fin(b:QB vars l body)(h:q1 l body=0):Fin body/\∀x∈l,∀t∈x,Fin t:=by have h0:=XG h;exact⟨.of b.body (h0 _ (by simp)),λx hx t ht=>.of (b.bd x hx t ht) (h0 _ (by simp only[fY,List.mem_map];exact .inr ⟨t,List.mem_flatten.2 ⟨x,hx,ht⟩,rfl⟩))⟩
theorem Kd.of{l:List (List Nd)}{b:Nat}(h1:l.length<=5)(hb:b<=20000)(h:∀t∈l,Bd t/\KR t/\t.length<=b):Kd l:=by have h2:=IY (b:=b) (l:=l) λt ht=>(h t ht).2.2;have h3:l.length*b<=5*20000:=vO h1 hb;refine⟨by omega,by omega,λi hi=>(h _ (dU hi)).1,λi hi j hj k hk=>?_⟩;have h4:=h _ (dU hi);have:=h4.2.1.2 _ (dU hj) k hk;omega
theorem XI{x:List (List Nd)}(h1:x.length<=4)(h:∀t∈x,Fin t):Bd (uy x)/\KR (uy x)/\(uy x).length<=8001:=by have h2:=IY (b:=2000) (l:=x) λt ht=>(h t ht).2.2;exact⟨XF (by omega) (by omega) (by simp) (by simp) (by simp) λt ht=>(h t ht).1,akN λt ht=>(h t ht).2.1,by unfold uy;rw[IX];omega⟩
theorem QB.kd(b:QB vars l body)(h:q1 l body=0):Kd (l.map uy++[body]):=by
 obtain⟨h1,h2⟩:=b.fin h;refine Kd.of (b:=8001) (by simp;exact b.len) (by omega) λt ht=>?_;rcases kc.1 ht with e | e
 ·obtain⟨x,hx,rfl⟩:=List.mem_map.1 e;exact XI (b.each x hx) (h2 x hx)
 ·rw[mN]at e;subst e;exact⟨h1.1,h1.2.1,by have:=h1.2.2;omega⟩
theorem QB.kds(b:QB vars l body)(h:q1 l body=0):∀x∈l,Kd x:=λx hx=>
 Kd.of (b:=2000) (by have:=b.each x hx;omega) (by omega) ((b.fin h).2 x hx)
theorem QB.ZK(b:QB vars l body)(h:q1 l body=0):Bd (qT op vars l body):=by
 obtain⟨h1,h2⟩:=b.fin h;have hk:=b.kd h;have h3:=IY (b:=8001) (l:=l.map uy++[body]) λt ht=>by
  rcases kc.1 ht with e | e
  ·obtain⟨x,hx,rfl⟩:=List.mem_map.1 e;exact(XI (b.each x hx) (h2 x hx)).2.2
  ·rw[mN]at e;subst e;have:=h1.2.2;omega
 have hl:=b.len;simp only[gX,lC,List.length_singleton]at h3;refine XF (by omega) (by simp;omega) (by simp) b.vl b.vn λt ht=>?_;obtain⟨i,hi,rfl⟩:=lB ht;exact hk.bd i hi
end
end
section
variable {C:Nat->Option bP}{h:Hf}{n:K}{Q:V->Hf->K->Prop}
variable {op:Int}{vars:List (S×S)}{l:List (List (List Nd))}{body:List Nd}
theorem IZ{ts:List Nd}(h:0<ts.length):(ts[ts.length - 1]'(by omega)).sort=NY ts:=by unfold NY;rw[List.getLast?_eq_getElem?,gP (by omega)];rfl
theorem XJ{E:Env}{k k':K}{op:Int}{vv:V}{vars:List (S×S)}(h1:lk E k=some (.i .i64 op))(h2:lk E k'=some vv)(hc:vv.cells=[vv])(ho:vv.one=true):
 iQ E [.i .i64 0,.s 0 0,.s 0 0,.ns,.ns] [(0,1,.t k),(1,1,.c (st [66,111,111,108])),(3,1,.t k')]=some (dT ⟨op,[66,111,111,108],[],vars,[]⟩ vv .ns):=by
 simp only[iQ,ge,h1,h2,hc,fG,pG,bN,ho,eW,over];rfl
theorem w18(hC:Cd C){vv vl t:V}(b:QB vars l body)(hg:Gl h n)(hv:fC h n vv vars)(hl:ju h n vl l)(ht:db h n t body)
 (hQ:∀v h' n',Ext h n h' n'->db h' n' v (qV op vars l body)->Q (.u [v,.i .i64 (qE op vars l body)]) h' n'):τ C (.f 18 [] []) [.i .i64 op,vv,vl,t] h n Q:=by
 have hlen:=b.len;have M4:=b.flat;have ug:=b.vl;have stop:∀{x:Int} {h' n'},x≠0->qE op vars l body=x->Ext h n h' n'->Q (.u [.ns,.i .i64 x]) h' n':=by intro x h' n' hx e e1;have:=hQ .ns h' n' e1 (by unfold qV;rw[ai (by rw[e];exact hx)];exact db.nil _ _);rw[e]at this;exact this
 refine τ.go hC.f18 U ?_;refine θ<|γ U<|γ U<|ε ?_;refine ν<|θ<|γ U<|al U U<|EM hC.f56<|dR U<|ε ?_;by_cases ho:op=17\/op=18
 case neg=>
  refine aD U (by simp[ho]) ?_;refine θ<|γ U<|γ U<|ε (aj ⟨_,rfl,stop (by decide) (by unfold qE;rw[ai ho]) (Ext.refl _ _)⟩)
 refine aE U (by simp[ho])<|ao ?_;refine θ<|γ U<|al U U<|w57 hC hl (by omega) (by omega) <| λv1 h1 n1 e1 f1=>γ U<|ε ?_;refine ν<|θ<|γ U<|al U U<|JV hC b.body (hg.ext e1) (ht.ext e1) <| λh2 n2 e2=>γ U<|al U U<|w58 hC (f1.ext e2) (by omega) (λi hi=>b.fbd _ (dU hi)) ((hg.ext e1).ext e2) <| λv3 h3 n3 e3 f3=>al U U<|Ba hC.f41 f3 (by rw[lC];omega)<|fx U <| λh4 n4 nE a4 e4=>al U U<|Ba hC.f41 (l:=[dN body,eD (l.flatten.map dN)]) (ρ.whole (len:=2) (by omega) a4 rfl) (by simp)<|γ U<|ε ?_;rw[akO];have x4:=((e1.trans e2).trans e3).trans e4;refine θ<|γ U<|fT U U<|ε ?_;by_cases h0:q1 l body=0
 case neg=>
  refine aD U (by simpa[q1]using h0) ?_;refine θ<|γ U<|γ U<|γ U<|ε (aj ⟨_,rfl,stop h0 (by unfold qE;rw[az ho,ai h0];rfl) x4⟩)
 refine aE U (by simpa[q1]using h0)<|ao ?_;refine ν<|θ<|γ U<|al U U<|w59 hC (hl.ext x4) (by omega)<|ε ?_;by_cases C9:emp l=true
 ·refine aD U (by simp[C9]) ?_;refine θ<|γ U<|γ U<|ε (aj ⟨_,rfl,stop (by decide) (by unfold qE;rw[az ho,az h0,az C9]) x4⟩)
 refine aE U (by simp[C9])<|ao ?_;have hf:=b.fin h0;have mR:0<body.length:=hf.1.2.1.1;have iL:=hf.1.2.2;have ht4:=ht.ext x4;refine ν<|θ<|γ U<|al U U<|w61 hC ht4.choose_spec (by omega) mR <| λh5 n5 uu ku e5 wM O5 hk5=>Af U U<|rN (b:=[66,111,111,108]) U U<|ε ?_;by_cases hs:NY body=[66,111,111,108]
 case neg=>
  refine aD U (by rw[IZ mR];simp[hs]) ?_;refine θ<|γ U<|γ U<|ε (aj ⟨_,rfl,stop (by decide) (by unfold qE;rw[az ho,az h0,ai C9,ai hs]) (x4.trans e5)⟩)
 refine aE U (by rw[IZ mR];simp[hs])<|ao ?_;have x5:=x4.trans e5;have hE:qE op vars l body=dN (qT op vars l body):=by unfold qE;rw[az ho,az h0,ai C9,az hs]
 refine θ<|γ U<|al U U<|w62 hC (hl.ext x5) (by omega) (λi hi=>b.kds h0 _ (dU hi)) <| λv6 us h6 n6 g6=>γ U<|ε ?_;have gr:=g6.2.1;rw[lC]at gr;have x6:=x5.trans gr.ext;have ap:∀{h7 n7 v8 h8 n8},Ext h6 n6 h7 n7->gp h8 23 1 v8 (l.length+1) (us++[t])->v8.blk=n7->n8.num=n7.num+1->(∀b:K,b.num<n7.num->(v6=.ns\/b.num≠v6.blk.num)->h8 b=h7 b)->gU h8 n8 v8 (l.map uy++[body])/\Ext h n h8 n8:=by intro h7 n7 v8 h8 n8 e7 o8 q8 mJ s8;have ge:=gr.ge;have x7:=x6.trans e7;have l5:=x5.1;have l7:=x7.1;have x8:∀m:K,n7.num<=m.num->Ext h n h8 m:=λm hm=>⟨by omega,λk hk=>by rw[s8 k (by omega) (ge.imp id λh=>by omega),x7.2 k hk]⟩;exact⟨(g6.app e7 (ht.ext (x8 n7 (Γ _))) (by rw[lC];exact o8) q8 mJ s8).lt,x8 n8 (by omega)⟩
 refine θ<|γ U<|γ U<|kl (XJ (vars:=vars) U U (ρ.cells hv) (ρ.one hv))<|γ U<|γ U<|fx (kT rfl ht.cells ht.one) <| λh7 n7 wQ a7 e7=>jK U ((gr.on e7).own) U (ρ.whole (len:=1) (by omega) a7 rfl) (by omega) (by omega) (by omega) (by omega) (by simp only[bN,ht.one];rfl) ((gr.on e7).lt) <| λw8 h8 n8 o8 q8 mJ s8=>al U U<|w64 hC (b.kd h0) (ap e7 o8 q8 mJ s8).1 (fC.ext hv (ap e7 o8 q8 mJ s8).2) U (by show vars.length<_;omega) <| λv9 h9 n9 e9 t9=>al U U<|w65 hC (b.ZK h0) (hg.ext ((ap e7 o8 q8 mJ s8).2.trans e9)) t9.t <| λv10 lj eV nG t10=>dj U U<|dj U U<|γ U<|γ U<|ε (aj ⟨_,rfl,?_⟩);have:=hQ v10 lj eV (((ap e7 o8 q8 mJ s8).2.trans e9).trans nG) (by unfold qV;rw[hE];exact t10);rw[hE]at this;exact this
end
section
variable {C:Nat->Option bP}{h0:Hf}{n0:K}
variable {op:Int}{vars:List (S×S)}{l:List (List (List Nd))}{body:List Nd}{vv vl t:V}
theorem akQ(hC:Cd C)(b:QB vars l body)(hl:ju h0 n0 vl l){i:Nat}(hi:i<l.length){Q1:Ex->Env->Hf->K->Prop}
 (hR:∀x h n E',Ext h0 n0 h n->x≠0->q1 l body=x->da [(k8,.ns),(k9,.i .i64 x)] E'->Q1 .ret E' h n)
 (hQ:∀h n E',Ext h0 n0 h n->q1 l body=eD ((l.drop (i+1)).flatten.map dN)->da [(k0,.i .i64 op),(k1,vv),(k2,vl),(k3,t),(aH,.i .i64 (i:Nat))] E'->Q1 .normal E' h n):
 ∀(r j:Nat) (h:Hf) (n:K),l[i].length - j=r->j<=l[i].length->Ext h0 n0 h n->q1 l body=eD ((l[i].drop j++(l.drop (i+1)).flatten).map dN)->WC C UF [(k0,.i .i64 op),(k1,vv),(k2,vl),(k3,t),(aH,.i .i64 (i:Nat)),(aN,.i .i64 (j:Nat))] h n (blk 2 Q1):=by
 have oA:=b.len;have JZ:=b.each _ (dU hi);obtain⟨cs,hs⟩:=hl.sl;intro r
 induction r with
 | zero=>
  intro j h n hr hj e hq;obtain⟨u,hu,tu⟩:=(hl.ext e).get hi;obtain⟨us,su⟩:=tu.sl;have:j=l[i].length:=by omega
  subst this;refine aQ ?_;refine ν<|θ<|γ U<|γ U<|γ U<|bh U U (hs.ext e) hi<|χ U hu<|aG U su<|aP U U<|ε ?_;refine aE U (by simp)<|bW ?_;exact hQ h n _ e (by rw[hq,nH];rfl) ⟨rfl,rfl,rfl,rfl,rfl,trivial⟩
 | succ r ih=>
  intro j h n hr hj e hq;have ψ:j<l[i].length:=by omega
  obtain⟨u,hu,tu⟩:=(hl.ext e).get hi;obtain⟨us,su⟩:=tu.sl;obtain⟨w,hw,tw⟩:=tu.get ψ;refine aQ ?_;refine ν<|θ<|γ U<|γ U<|γ U<|bh U U (hs.ext e) hi<|χ U hu<|aG U su<|aP U U<|ε ?_;refine aD U (by simp;omega)<|ao ?_;rw[gi ψ,vM,ma,eD]at hq;refine ν<|aK<|θ<|γ U<|γ U<|bh U U (hs.ext e) hi<|χ U hu<|γ U<|bh U U su ψ<|χ U hw<|al U U<|JJ hC (b.bd _ (dU hi) _ (dU ψ)) tw <| λh2 n2 e2=>γ U<|ε ?_;refine θ<|γ U<|fT U U<|ε ?_;by_cases hz:dN l[i][j]=0
  ·rw[az hz]at hq;refine aE U (by simp[hz])<|ao ?_;refine aR<|γ U<|cK U U ⟨by omega,by omega⟩<|γ U<|ε ?_;exact ae (ih (j+1) h2 n2 (by omega) (by omega) (e.trans e2) hq) ⟨rfl,rfl,rfl,rfl,rfl,rfl,trivial⟩
  ·rw[ai hz]at hq;refine aD U (by simp[hz]) ?_;refine θ<|γ U<|γ U<|γ U<|ε (aj (hR _ _ _ _ (e.trans e2) hz hq ⟨rfl,rfl,trivial⟩))
theorem akR(hC:Cd C)(b:QB vars l body)(hl:ju h0 n0 vl l){Q1:Ex->Env->Hf->K->Prop}
 (hR:∀x h n E',Ext h0 n0 h n->x≠0->q1 l body=x->da [(k8,.ns),(k9,.i .i64 x)] E'->Q1 .ret E' h n)
 (hQ:∀h n E',Ext h0 n0 h n->q1 l body=0->da [(k0,.i .i64 op),(k1,vv),(k2,vl),(k3,t)] E'->Q1 .normal E' h n):
 ∀(r i:Nat) (h:Hf) (n:K),l.length - i=r->i<=l.length->Ext h0 n0 h n->q1 l body=eD ((l.drop i).flatten.map dN)->WC C UI [(k0,.i .i64 op),(k1,vv),(k2,vl),(k3,t),(aH,.i .i64 (i:Nat))] h n (blk 0 Q1):=by
 have oA:=b.len;obtain⟨cs,hs⟩:=hl.sl;intro r
 induction r with
 | zero=>
  intro i h n hr hi e hq;have:i=l.length:=by omega
  subst this;refine aQ ?_;refine ν<|θ<|γ U<|γ U<|aG U (hs.ext e)<|aP U U<|ε ?_;refine aE U (by simp)<|bW ?_;exact hQ h n _ e (by rw[hq,nH];rfl) ⟨rfl,rfl,rfl,rfl,trivial⟩
 | succ r ih=>
  intro i h n hr hi e hq;have ψ:i<l.length:=by omega
  refine aQ ?_;refine ν<|θ<|γ U<|γ U<|aG U (hs.ext e)<|aP U U<|ε ?_;refine aD U (by simp;omega)<|ao ?_;rw[gi ψ,List.flatten_cons]at hq;refine ν<|aK<|θ<|γ U<|ε ?_;refine aK<|ae (akQ (Q1:=blk 1 (sq C UG (sq C (.loop UH) (blk 0 Q1)))) hC b hl ψ (λx h' n' E' e' hx hJ s=>hR x h' n' E' e' hx hJ s) ?_ _ 0 h n rfl (by omega) e (by rw[hq];rfl)) ⟨rfl,rfl,rfl,rfl,rfl,rfl,trivial⟩;intro h2 n2 E2 e2 CO s;refine dB s ?_;refine aR<|γ U<|cK U U ⟨by omega,by omega⟩<|γ U<|ε ?_;exact ae (ih (i+1) h2 n2 (by omega) (by omega) e2 CO) ⟨rfl,rfl,rfl,rfl,rfl,trivial⟩
end
section
variable {C:Nat->Option bP}{h0:Hf}{n0:K}
variable {op:Int}{vars:List (S×S)}{l:List (List (List Nd))}{body:List Nd}{vv vl t:V}
theorem XK(x:List (List Nd))(l:List (List (List Nd))):emp (x::l)=(decide (x.length=0)||emp l):=rfl
theorem akS(hC:Cd C)(b:QB vars l body)(h0q:q1 l body=0)(hl:ju h0 n0 vl l){Q1:Ex->Env->Hf->K->Prop}
 (hR:∀h n E',Ext h0 n0 h n->emp l=true->da [(k8,.ns),(k9,.i .i64 2)] E'->Q1 .ret E' h n)
 (hQ:∀w us h n E',tO h0 n0 h n w (l.map uy) us->emp l=false->da [(k0,.i .i64 op),(k1,vv),(k2,vl),(k3,t),(aT,w)] E'->Q1 .normal E' h n):
 ∀(r i:Nat) (w:V) (us:List V) (h:Hf) (n:K),l.length - i=r->i<=l.length->tO h0 n0 h n w ((l.take i).map uy) us->emp l=emp (l.drop i)->WC C UJ [(k0,.i .i64 op),(k1,vv),(k2,vl),(k3,t),(aT,w),(aV,.i .i64 (i:Nat))] h n (blk 4 Q1):=by
 have oA:=b.len;obtain⟨cs,hs⟩:=hl.sl;intro r
 induction r with
 | zero=>
  intro i w us h n hr hi g hq;have:i=l.length:=by omega
  subst this;rw[fO]at g;have e:=g.2.1.ext;refine aQ ?_;refine ν<|θ<|γ U<|γ U<|aG U (hs.ext e)<|aP U U<|ε ?_;refine aE U (by simp)<|bW ?_;exact hQ w us h n _ g (by rw[hq,nH];rfl) ⟨rfl,rfl,rfl,rfl,rfl,trivial⟩
 | succ r ih=>
  intro i w us h n hr hi g hq;have ψ:i<l.length:=by omega
  have gr:=g.2.1;have qi:((l.take i).map uy).length=i:=by simp;omega
  rw[qi]at gr;have e:=gr.ext;obtain⟨u,hu,tu⟩:=(hl.ext e).get ψ;obtain⟨xs,su⟩:=tu.sl;have JZ:=b.each _ (dU ψ);have eF:=kU ⟨19,[],[],[],[]⟩ (vv:=.ns) (kv:=.ns) U U;refine aQ ?_;refine ν<|θ<|γ U<|γ U<|aG U (hs.ext e)<|aP U U<|ε ?_;refine aD U (by simp;omega)<|ao ?_;rw[gi ψ]at hq;refine ν<|aK<|ν<|θ<|γ U<|γ U<|bh U U (hs.ext e) ψ<|χ U hu<|aG U su<|bQ U U<|ε ?_;by_cases hz:l[i].length=0
  ·refine aD U (by simp[hz]) ?_;refine θ<|γ U<|γ U<|ε (aj (hR _ _ _ e (by rw[hq,XK];simp only[hz,decide_true,decide_false,Bool.true_or,Bool.false_or]) ⟨rfl,rfl,trivial⟩))
  ·refine aE U (gj (by omega))<|ao ?_;refine aR<|γ U<|kl U<|γ U<|γ U<|bh U U (hs.ext e) ψ<|χ U hu<|al U U<|w67 (x:=⟨19,[],[],[],[]⟩) (vv:=.ns) (kv:=.ns) hC (b.kds h0q _ (dU ψ)) tu (ρ.ns h n 2) U (by simp) <| λv2 h2 n2 e2 tg=>fx (kT rfl tg.t.cells tg.t.one) <| λh3 n3 lz a3 e3=>jK U (((gr.on e2).on e3).own) U (ρ.whole (len:=1) (by omega) a3 rfl) (by omega) (by omega) (by omega) (by omega) (by simp only[bN,tg.t.one];rfl) (((gr.on e2).on e3).lt) <| λw4 h4 n4 o4 q4 nE s4=>γ U<|ε ?_;have GC:=gr.lt;have Fj:=e3.1;have g4:=g.app (e2.trans e3) (TG.skip (h':=h4) (n':=n3) tg (λb rf fM=>by rw[s4 b (by omega) (GC.imp id λh=>by omega),e3.2 b fM]) Fj).t (by rw[qi];exact o4) q4 nE s4;refine aR<|γ U<|cK U U ⟨by omega,by omega⟩<|γ U<|ε ?_;refine ae (ih (i+1) w4 (us++[v2]) h4 n4 (by omega) (by omega) ?_ (by rw[hq,XK];simp only[hz,decide_true,decide_false,Bool.true_or,Bool.false_or])) ⟨rfl,rfl,rfl,rfl,rfl,rfl,trivial⟩;rw[iy ψ,List.map_append];exact g4
end
section
variable {C:Nat->Option bP}{h:Hf}{n:K}{Q:V->Hf->K->Prop}
variable {op:Int}{vars:List (S×S)}{l:List (List (List Nd))}{body:List Nd}
theorem XL{E:Env}{v w:V}(h1:lk E k8=some v)(h2:lk E k9=some w)(o1:v.cells=[v])(o2:v.one=true):oK [.t k8,.t k9] E h=some (.u [v,w]):=by simp only[oK,sW,wa,h1,h2]
theorem w20(hC:Cd C){vv vl t:V}(b:QB vars l body)(hv:fC h n vv vars)(hl:ju h n vl l)(ht:db h n t body)
 (hQ:∀v h' n',Ext h n h' n'->db h' n' v (qV op vars l body)->Q (.u [v,.i .i64 (qE op vars l body)]) h' n'):τ C (.f 20 [] []) [.i .i64 op,vv,vl,t] h n Q:=by
 have hlen:=b.len;have ug:=b.vl;have stop:∀{x:Int} {h' n'},x≠0->qE op vars l body=x->Ext h n h' n'->Q (.u [.ns,.i .i64 x]) h' n':=by intro x h' n' hx e e1;have:=hQ .ns h' n' e1 (by unfold qV;rw[ai (by rw[e];exact hx)];exact db.nil _ _);rw[e]at this;exact this
 refine τ.go hC.f20 U ?_;refine θ<|γ U<|γ U<|ε ?_;refine ν<|θ<|γ U<|al U U<|OV hC<|dR U<|ε ?_;by_cases ho:op=17\/op=18
 case neg=>
  refine aD U (by simp[ho]) ?_;refine θ<|γ U<|γ U<|ε (aj ⟨_,rfl,stop (by decide) (by unfold qE;rw[ai ho]) (Ext.refl _ _)⟩)
 refine aE U (by simp[ho])<|ao ?_;refine ν<|θ<|γ U<|al U U<|JJ hC b.body ht <| λh1 n1 e1=>γ U<|ε ?_;refine θ<|γ U<|fT U U<|ε ?_;by_cases eJ:dN body=0
 case neg=>
  refine aD U (by simpa using eJ) ?_;have hq:q1 l body=dN body:=by unfold q1;rw[eD,ai eJ]
  refine θ<|γ U<|γ U<|γ U<|ε (aj ⟨_,rfl,stop eJ (by unfold qE;rw[az ho,ai (by rw[hq];exact eJ),hq]) e1⟩)
 refine aE U (by simp[eJ])<|ao ?_;have hq:q1 l body=eD (l.flatten.map dN):=by unfold q1;rw[eD,az eJ]
 refine ν<|θ<|γ U<|ε ?_;refine aK<|ae (akR (Q1:=sq C UL (fq [.t k8,.t k9] Q)) hC b (hl.ext e1) ?_ ?_ _ 0 h1 n1 rfl (by omega) (Ext.refl _ _) hq) ⟨rfl,rfl,rfl,rfl,rfl,trivial⟩
 ·intro x h2 n2 E2 e2 hx CO s;exact⟨_,XL s.1 s.2.1 rfl rfl,stop hx (by unfold qE;rw[az ho,ai (by rw[CO];exact hx),CO]) (e1.trans e2)⟩
 intro h2 n2 E2 e2 h0 s;have x2:=e1.trans e2;refine dB s ?_;refine θ<|γ U<|ε ?_;refine ν<|θ<|γ U<|ε ?_;refine aK<|ae (akS (Q1:=sq C UK (fq [.t k8,.t k9] Q)) hC b h0 (hl.ext x2) ?_ ?_ _ 0 .ns [] h2 n2 rfl (by omega) (tO.nil (Ext.refl _ _)) U) ⟨rfl,rfl,rfl,rfl,rfl,rfl,trivial⟩
 ·intro h3 n3 E3 e3 C9 s;exact⟨_,XL s.1 s.2.1 rfl rfl,stop (x:=2) (by decide) (by unfold qE;rw[az ho,az h0,az C9]) (x2.trans e3)⟩
 intro v6 us h6 n6 E6 g6 C9 s;have gr:=g6.2.1;rw[lC]at gr;have x6:=x2.trans gr.ext;have hf:=b.fin h0;have mR:0<body.length:=hf.1.2.1.1;have iL:=hf.1.2.2;have XM:¬ emp l=true:=by rw[C9];decide
 refine dB s ?_;refine ν<|θ<|γ U<|al U U<|w68 hC (ht.ext x6).choose_spec (by omega) mR <| λh5 n5 uu ku e5 wM O5 hk5=>Af U U<|rN (b:=[66,111,111,108]) U U<|ε ?_;by_cases hs:NY body=[66,111,111,108]
 case neg=>
  refine aD U (by rw[IZ mR];simp[hs]) ?_;refine θ<|γ U<|γ U<|ε (aj ⟨_,rfl,stop (by decide) (by unfold qE;rw[az ho,az h0,ai XM,ai hs]) (x6.trans e5)⟩)
 refine aE U (by rw[IZ mR];simp[hs])<|ao ?_;have hE:qE op vars l body=dN (qT op vars l body):=by unfold qE;rw[az ho,az h0,ai XM,az hs]
 have gr5:=gr.on e5;have ap:∀{h7 n7 v8 h8 n8},Ext h5 n5 h7 n7->gp h8 23 1 v8 (l.length+1) (us++[t])->v8.blk=n7->n8.num=n7.num+1->(∀b:K,b.num<n7.num->(v6=.ns\/b.num≠v6.blk.num)->h8 b=h7 b)->gU h8 n8 v8 (l.map uy++[body])/\Ext h n h8 n8:=by intro h7 n7 v8 h8 n8 e7 o8 q8 mJ s8;have ge:=gr.ge;have x7:=(x6.trans e5).trans e7;have l5:=x2.1;have l7:=x7.1;have x8:∀m:K,n7.num<=m.num->Ext h n h8 m:=λm hm=>⟨by omega,λk hk=>by rw[s8 k (by omega) (ge.imp id λh=>by omega),x7.2 k hk]⟩;exact⟨(g6.app (e5.trans e7) (ht.ext (x8 n7 (Γ _))) (by rw[lC];exact o8) q8 mJ s8).lt,x8 n8 (by omega)⟩
 refine θ<|γ U<|γ U<|kl (XJ (vars:=vars) U U (ρ.cells hv) (ρ.one hv))<|γ U<|γ U<|fx (kT rfl ht.cells ht.one) <| λh7 n7 wQ a7 e7=>jK U ((gr5.on e7).own) U (ρ.whole (len:=1) (by omega) a7 rfl) (by omega) (by omega) (by omega) (by omega) (by simp only[bN,ht.one];rfl) ((gr5.on e7).lt) <| λw8 h8 n8 o8 q8 mJ s8=>al U U<|w67 hC (b.kd h0) (ap e7 o8 q8 mJ s8).1 (fC.ext hv (ap e7 o8 q8 mJ s8).2) U (by show vars.length<_;omega) <| λv9 h9 n9 e9 t9=>γ U<|ε ?_;have x9:=(ap e7 o8 q8 mJ s8).2.trans e9;refine ν<|θ<|γ U<|al U U<|JJ hC (b.ZK h0) t9.t <| λlj eV nG=>γ U<|ε ?_;refine θ<|γ U<|fT U U<|ε ?_;by_cases hz:dN (qT op vars l body)=0
 ·refine aE U (by simp[hz])<|ao ?_;refine θ<|γ U<|γ U<|γ U<|ε (aj ⟨_,rfl,?_⟩);have:=hQ v9 lj eV (x9.trans nG) (by unfold qV;rw[az (by rw[hE];exact hz)];exact(t9.t).ext nG);rw[hE,hz]at this;exact this
 ·refine aD U (by simp[hz]) ?_;refine θ<|γ U<|γ U<|γ U<|ε (aj ⟨_,rfl,stop hz hE (x9.trans nG)⟩)
end
section
def Da(h0:Hf)(n0:K)(h:Hf)(n:K)(v:V)(l:List (List (List Nd)))(hs:List V):Prop:=
 hs.length=l.length/\Gr h0 n0 h n 48 1 v l.length hs/\∀j (h1:j<hs.length) (h2:j<l.length),gU h0 n0 hs[j] l[j]
def wY(h0:Hf)(n0:K)(h:Hf)(n:K)(u v:V)(l:List (List (List Nd)))(hs:List V):Prop:=
 hs.length=l.length/\Gr h0 n0 h n 48 1 v l.length hs/\dh u v/\∀j (h1:j<hs.length) (h2:j<l.length),v≠.ns/\∀g:Hf,(∀b:K,b.num<v.blk.num->(u=.ns\/b.num≠u.blk.num)->g b=h b)->gU g v.blk hs[j] l[j]
section
variable {h0 h h1 h4 h5:Hf}{n0 n n1 n4 n5:K}{u v u5 v5 w:V}{l:List (List (List Nd))}{t:List (List Nd)}{hs cs:List V}
theorem Gr.eY{e z len:Nat}(a:Gr h0 n0 h n e z u len cs)(hn:n.num<=n5.num)(s:∀b:K,b.num<n.num->(v=.ns\/b.num≠v.blk.num)->h5 b=h b)(hv:v=.ns\/n0.num<=v.blk.num)(ne:dh u v):Gr h0 n0 h5 n5 e z u len cs:=by
 have h1:=a.ext.1;refine⟨⟨by omega,λk hk=>by rw[s k (by omega) (hv.imp id λ_=>by omega),a.ext.2 k hk]⟩,a.own.ext ?_,a.at_.imp id λh=>⟨h.1,by omega⟩⟩;rcases ne with e | e | e
 ·exact Or.inl e
 ·exact a.lt.imp id λg=>s _ g (Or.inl e)
 ·exact a.lt.imp id λg=>s _ g (Or.inr e)
theorem Da.ll(a:Da h0 n0 h n v l hs):ju h n v l:=
 ⟨hs,a.1,a.2.1.sl,λi g1 g2=>(a.2.2 i g1 g2).ext a.2.1.ext⟩
theorem Da.app(a:Da h0 n0 h n v l hs)(x:Ext h n h4 n4)(ht:gU h0 n0 w t)(o5:gp h5 48 1 v5 (l.length+1) (hs++[w]))(q5:v5.blk=n4)(qK:n5.num=n4.num+1)(s5:∀b:K,b.num<n4.num->(v=.ns\/b.num≠v.blk.num)->h5 b=h4 b):Da h0 n0 h5 n5 v5 (l++[t]) (hs++[w]):=by
 obtain⟨h1,h2,h3⟩:=a;refine⟨by simp[h1],by rw[gX];exact(h2.on x).app o5 q5 qK s5,λj g1 g2=>?_⟩;by_cases hj:j<hs.length
 ·rw[List.getElem_append_left hj,List.getElem_append_left (by omega)];exact h3 j hj (by omega)
 ·have fb:j=hs.length:=by simp at g1;omega
  subst fb;simp only[List.getElem_concat_length,h1];exact ht
theorem wY.ll(a:wY h0 n0 h n u v l hs):ju h n v l:=
 ⟨hs,a.1,a.2.1.sl,λi g1 g2=>((a.2.2.2 i g1 g2).2 h λ_ _ _=>rfl).ext ⟨a.2.1.lt.elim (λe=>absurd e (a.2.2.2 i g1 g2).1) fZ,λ_ _=>rfl⟩⟩
theorem wY.on(a:wY h0 n0 h n u v l hs)(x:Ext h n h4 n4):wY h0 n0 h4 n4 u v l hs:=by obtain⟨h1,h2,h3,h5⟩:=a;refine⟨h1,h2.on x,h3,λj g1 g2=>⟨(h5 j g1 g2).1,λg hg=>(h5 j g1 g2).2 g λb hb hc=>?_⟩⟩;have:=h2.lt.resolve_left (h5 j g1 g2).1;rw[hg b hb hc,x.2 b (by omega)]
theorem wY.other(a:wY h0 n0 h n u v l hs)(hu:u=.ns\/n0.num<=u.blk.num)(q5:u5.blk=n)(qK:n5.num=n.num+1)(s5:∀b:K,b.num<n.num->(u=.ns\/b.num≠u.blk.num)->h5 b=h b):wY h0 n0 h5 n5 u5 v l hs:=by obtain⟨h1,h2,h3,h4⟩:=a;refine⟨h1,h2.eY (by omega) s5 hu h3.symm,(dh.of h2.lt (Or.inr (by rw[q5];exact Γ _))).symm,λj g1 g2=>⟨(h4 j g1 g2).1,λg hg=>(h4 j g1 g2).2 g λb hb hc=>?_⟩⟩;have:=h2.lt.resolve_left (h4 j g1 g2).1;rw[hg b hb (Or.inr (by rw[q5];omega)),s5 b (by omega) hc]
theorem wY.app(a:wY h0 n0 h n u v l hs)(hu:u=.ns\/u.blk.num<n.num)(x:Ext h n h1 n1)(y:Ext h1 n1 h4 n4)(ht:Wh h1 n n1 w t)(o5:gp h5 48 1 v5 (l.length+1) (hs++[w]))(q5:v5.blk=n4)(qK:n5.num=n4.num+1)(s5:∀b:K,b.num<n4.num->(v=.ns\/b.num≠v.blk.num)->h5 b=h4 b):wY h0 n0 h5 n5 u v5 (l++[t]) (hs++[w]):=by
 obtain⟨g1,g2,g3,g4⟩:=a;have l1:=x.1;have l4:=y.1;have NX:v5≠.ns:=by intro e;have:=o5.nil e;omega
 refine⟨by simp[g1],by rw[gX];exact(g2.on (x.trans y)).app o5 q5 qK s5,dh.of hu (Or.inr (by rw[q5];omega)),λj k1 k2=>⟨NX,λg hg=>?_⟩⟩;rw[q5]at hg ⊢;by_cases hj:j<hs.length
 ·rw[List.getElem_append_left hj,List.getElem_append_left (by omega)];obtain⟨a1,a2⟩:=g4 j hj (by omega);have ψ:=g2.lt.resolve_left a1;refine(a2 g λb hb hc=>?_).ext ⟨by omega,λ_ _=>rfl⟩;rw[hg b (by omega) hc,s5 b (by omega) (Or.inr (by omega)),y.2 b (by omega),x.2 b (by omega)]
 ·have fb:j=hs.length:=by simp at k1;omega
  subst fb;simp only[List.getElem_concat_length,g1];have GC:=g2.lt;refine(ht g λb b1 b2=>?_).ext ⟨l4,λ_ _=>rfl⟩;rw[hg b (by omega) (hu.imp id λ_=>by omega),s5 b (by omega) (GC.imp id λ_=>by omega),y.2 b b2]
end
end
section
variable {C:Nat->Option bP}
section
variable {h0 h:Hf}{n0 n:K}{l:List (List (List Nd))}{vl x0 x1 x10 u v w:V}{us hs:List V}{i:Nat}
theorem akU(hC:Cd C)(oA:l.length<=4)(hi:i<l.length)(g:Da h0 n0 h n u (l.take i) us)(b:wY h0 n0 h n u v (l.take i) hs)(tw:gU h0 n0 w l[i])(hl4:l[i].length<=4)(qJ:∀j (hj:j<l[i].length),Bd l[i][j]){Q1:Ex->Env->Hf->K->Prop}
 (hQ:∀u' v' ZL sj h' n' E',Da h0 n0 h' n' u' (l.take (i+1)) ZL->wY h0 n0 h' n' u' v' (l.take (i+1)) sj->da [(k0,x0),(k1,x1),(k2,vl),(k7,u'),(k8,v'),(k9,.ns),(bV,vl),(cE,.i .i64 (l.length:Nat)),(cB,.i .i64 (i:Nat))] E'->Q1 .normal E' h' n'):
 WC C LK [(k0,x0),(k1,x1),(k2,vl),(k7,u),(k8,v),(k9,.ns),(aH,w),(bV,vl),(cE,.i .i64 (l.length:Nat)),(cB,.i .i64 (i:Nat))] h n Q1:=by
 have qi:(l.take i).length=i:=by simp;omega
 obtain⟨cs,sw⟩:=tw.sl;have gr:=g.2.1;rw[qi]at gr;refine aR<|γ U<|γ U<|fx (kT rfl sw.cells sw.one) <| λh1 n1 dZ a1 e1=>jK U ((gr.on e1).own) U (ρ.whole (len:=1) (by omega) a1 rfl) (by omega) (by omega) (by omega) (by omega) (by simp only[bN,sw.one];rfl) ((gr.on e1).lt) <| λu2 h2 n2 o2 q2 fB s2=>γ U<|γ U<|al U U<|w17 hC (tw.ext (g.app e1 tw (by rw[qi];exact o2) q2 fB s2).2.1.ext) (by omega) qJ <| λw3 h3 n3 e3 Pp=>fx (kT rfl (Pp h3 λ_ _ _=>rfl).sl.choose_spec.cells (Pp h3 λ_ _ _=>rfl).sl.choose_spec.one) <| λh4 n4 nE a4 e4=>jK U ((((b.on e1).other gr.ge q2 fB s2).2.1.on (e3.trans e4)).own) U (ρ.whole (len:=1) (by omega) a4 rfl) (by rw[qi];omega) (by omega) (by rw[qi];omega) (by omega) (by simp only[bN,(Pp h3 λ_ _ _=>rfl).sl.choose_spec.one];rfl) ((((b.on e1).other gr.ge q2 fB s2).2.1.on (e3.trans e4)).lt) <| λv5 h5 n5 o5 q5 qK s5=>γ U<|γ U<|ε ?_;have g2:=g.app e1 tw (by rw[qi];exact o2) q2 fB s2;have b2:=(b.on e1).other gr.ge q2 fB s2;have b5:=b2.app g2.2.1.lt e3 e4 Pp o5 q5 qK s5;have l34:=e3.1;have l45:=e4.1;have g5:Da h0 n0 h5 n5 u2 (l.take i++[l[i]]) (us++[w]):=⟨g2.1,(g2.2.1.on (e3.trans e4)).eY (by omega) s5 b2.2.1.ge b2.2.2.1,g2.2.2⟩;rw[←iy hi]at g5 b5;exact hQ _ _ _ _ _ _ _ g5 b5 ⟨rfl,rfl,rfl,rfl,rfl,rfl,rfl,rfl,rfl,trivial⟩
theorem akV(hC:Cd C)(hl:ju h0 n0 vl l)(oA:l.length<=4)(hx:∀x∈l,∀t∈x,Fc t){Q1:Ex->Env->Hf->K->Prop}
 (hR:∀h n E',da [(k6,.b true)] E'->Q1 .ret E' h n)
 (hQ:∀u v w L body h n E',Ext h0 n0 h n->L.length<=4->(∀x∈L,x.length<=4)->(∀x∈L,∀t∈x,Bd t)->Bd body->ju h n u L->ju h n v L->db h n w body->da [(k0,x0),(k1,x1),(k7,u),(k8,v),(k9,w)] E'->Q1 .normal E' h n):
 ∀(r i:Nat) (u v:V) (us hs:List V) (h:Hf) (n:K),l.length - i=r->i<=l.length->Da h0 n0 h n u (l.take i) us->wY h0 n0 h n u v (l.take i) hs->(∀x∈l.take i,x.length<=4/\∀t∈x,Bd t)->WC C Uj [(k0,x0),(k1,x1),(k2,vl),(k7,u),(k8,v),(k9,.ns),(bV,vl),(cE,.i .i64 (l.length:Nat)),(cB,.i .i64 (i:Nat))] h n (blk 0 Q1):=by
 obtain⟨cs,sl⟩:=hl.sl;intro r
 induction r with
 | zero=>
  intro i u v us hs h n hr hi g b sA;have:i=l.length:=by omega
  subst this;rw[fO]at g b sA;refine aQ ?_;refine θ<|aP U U<|ε ?_;refine ν<|aE U (by simp)<|bW ?_;exact hQ u v .ns l [] h n _ g.2.1.ext oA (λx h=>(sA x h).1) (λx h=>(sA x h).2) (Bd.of (by simp) (by simp)) g.ll b.ll (db.nil _ _) ⟨rfl,rfl,rfl,rfl,rfl,trivial⟩
 | succ r ih=>
  intro i u v us hs h n hr hi g b sA;have ψ:i<l.length:=by omega
  obtain⟨w,hw,tw⟩:=hl.get ψ;obtain⟨ws,sw⟩:=tw.sl;have e:=g.2.1.ext;have hxi:=hx _ (dU ψ);refine aQ ?_;refine θ<|aP U U<|ε ?_;refine ν<|aD U (by simp;omega)<|ao ?_;refine ν<|aK<|θ<|γ U<|bh U U (sl.ext e) ψ<|χ U ((e.ld (sl.xT (by omega)) _ _ _).trans hw)<|γ U<|γ U<|ε ?_;by_cases h4:l[i].length<=4
  case neg=>
   refine ν<|θ<|γ U<|aG U (sw.ext e)<|cQ U U<|γ U<|σ U (by simp;omega)<|σ U (by simp;omega)<|σ U (by simp;omega)<|cg U (by simp;omega) U<|ε ?_;refine aD U U ?_;refine θ<|γ U<|ε (aj (hR _ _ _ ⟨rfl,trivial⟩))
  refine ν<|θ<|γ U<|aG U (sw.ext e)<|cQ U U<|γ U<|κ U (by simp;omega)<|γ U<|κ U (by simp;omega)<|al U U<|w16 hC (tw.ext e) (by omega) (λj hj=>hxi _ (dU hj))<|κ U (by simp;omega)<|dR U<|bE U (by simp;omega) U<|ε ?_;by_cases Pq:AV l[i]=true
  case neg=>
   refine aD U (by simp[Pq]) ?_;refine θ<|γ U<|ε (aj (hR _ _ _ ⟨rfl,trivial⟩))
  refine aE U (by simp[Pq])<|ao ?_;have qJ:∀t∈l[i],Bd t:=by simp only[AV,bG,ru]at Pq;exact λt ht=>aj9 (Pq.1 t ht)
  have akW:∀j (hj:j<l[i].length),Bd l[i][j]:=λj hj=>qJ _ (dU hj);have go:WC C LK [(k0,x0),(k1,x1),(k2,vl),(k7,u),(k8,v),(k9,.ns),(aH,w),(bV,vl),(cE,.i .i64 (l.length:Nat)),(cB,.i .i64 (i:Nat))] h n (blk 1 (sq C Uh (sq C (.loop Ui) (blk 0 Q1)))):=by
   refine akU hC oA ψ g b tw h4 akW ?_;intro u' v' ZL sj h' n' E' g' b' s;refine dB s ?_;refine aR<|cK U U ⟨by omega,by omega⟩<|γ U<|ε ?_;refine ae (ih (i+1) u' v' ZL sj h' n' (by omega) (by omega) g' b' ?_) ⟨rfl,rfl,rfl,rfl,rfl,rfl,rfl,rfl,rfl,trivial⟩;intro x oN;rw[iy ψ]at oN;rcases kc.1 oN with h | h
   ·exact sA x h
   ·rw[mN]at h;subst h;exact⟨h4,qJ⟩
  by_cases aqx:i+1=l.length
  case neg=>
   refine ν<|θ<|γ U<|γ U<|aG U (sl.ext e)<|jg U U ⟨by omega,by omega⟩<|bQ U U<|γ U<|σ U (by simp;omega)<|σ U (by simp;omega)<|σ U (by simp;omega)<|bE U (by simp;omega) U<|ε ?_;refine aE U U<|ao ?_;exact ae go ⟨rfl,rfl,rfl,rfl,rfl,rfl,rfl,rfl,rfl,rfl,trivial⟩
  refine ν<|θ<|γ U<|γ U<|aG U (sl.ext e)<|jg U U ⟨by omega,by omega⟩<|bQ U U<|γ U<|κ U (by simp;omega)<|γ U<|κ U (by simp;omega)<|aG U (sw.ext e)<|κ U (by simp;omega)<|cQ U U<|cg U (by simp;omega) U<|ε ?_;by_cases hz:0<l[i].length
  case neg=>
   refine aE U (gj (by omega))<|ao ?_;exact ae go ⟨rfl,rfl,rfl,rfl,rfl,rfl,rfl,rfl,rfl,rfl,trivial⟩
  obtain⟨t,ht,tt⟩:=(tw.ext e).get hz;refine aD U (qo (by omega)) ?_;refine θ<|γ U<|bh U U (sw.ext e) hz<|χ U ht<|γ U<|ε (bW ?_);exact hQ u v t (l.take i) l[i][0] h n _ e (by simp;omega) (λx h=>(sA x h).1) (λx h=>(sA x h).2) (qJ _ (dU hz)) g.ll b.ll tt ⟨rfl,rfl,rfl,rfl,rfl,trivial⟩
end
end
section
variable {C:Nat->Option bP}{h:Hf}{n:K}{Q:V->Hf->K->Prop}
variable {op:Int}{vars:List (S×S)}{l:List (List (List Nd))}{body:List Nd}
theorem akX(b:QB vars l body):Bd (qV op vars l body):=by
 unfold qV;by_cases h:qE op vars l body=0
 ·rw[az h];refine b.ZK ?_;unfold qE at h;by_cases ho:op=17\/op=18
  ·rw[az ho]at h;by_cases h1:q1 l body=0
   ·exact h1
   ·rw[ai h1]at h;exact h
  ·rw[ai ho]at h;cases h
 ·rw[ai h];exact Bd.of (by simp) (by simp)
theorem akY{ts:List Nd}(h:Bd ts)(i:Nat):Bd (part ts i):=by
 refine Bd.of ?_ λx hx=>?_
 ·have:=h.len;simp only[part,lC,qn,sK];omega
 ·obtain⟨y,hy,rfl⟩:=List.mem_map.1 hx;have hb:=h.bn y (Bm (uE hy));exact⟨by show(y.kids.map _).length<_;rw[lC];exact hb.1,hb.2⟩
theorem akZ{j:Int}(h:Bd body):Bd (yV body j):=by
 unfold yV;split
 ·exact akY h _
 ·exact Bd.of (by simp) (by simp)
theorem w4(hC:Cd C){vv vl:V}{G:Hf->K->Prop}(Bb:∀v∈vars,v.1.length<10000000)(hx:∀x∈l,∀t∈x,Fc t)(hG:∀{h n h' n'},G h n->Ext h n h' n'->G h' n')(NZ:∀{h n} {Q:V->Hf->K->Prop},G h n->Q (.b true) h n->τ C (.f 5 [] []) [] h n Q)
 (N0:G h n)(hg:Gl h n)(hv:fC h n vv vars)(hl:ju h n vl l)(hQ:∀h' n',Q (.b true) h' n'):τ C (.f 4 [] []) [.i .i64 op,vv,vl] h n Q:=by
 refine τ.go hC.f4 U ?_;obtain⟨cs,sl⟩:=hl.sl;refine θ<|γ U<|ε ?_;by_cases Bc:vars.length<=14
 case neg=>
  refine ν<|θ<|al U U<|NZ N0<|dR U<|γ U<|κ U (rfl)<|γ U<|κ U (rfl)<|aG U hv<|κ U (rfl)<|cQ U U<|bE U (rfl) U<|γ U<|σ U (by simp;omega)<|σ U (by simp;omega)<|σ U (by simp;omega)<|cg U (by simp;omega) U<|ε ?_;refine aD U U ?_;refine θ<|al U U<|NZ N0<|γ U<|ε (aj ⟨_,rfl,hQ _ _⟩)
 by_cases oA:l.length<=4
 case neg=>
  refine ν<|θ<|al U U<|NZ N0<|dR U<|γ U<|κ U (rfl)<|γ U<|κ U (rfl)<|aG U hv<|κ U (rfl)<|cQ U U<|bE U (rfl) U<|γ U<|κ U (by simp;omega)<|γ U<|κ U (by simp;omega)<|aG U sl<|κ U (by simp;omega)<|cQ U U<|bE U (by simp;omega) U<|ε ?_;refine aD U (by simp;omega) ?_;refine θ<|al U U<|NZ N0<|γ U<|ε (aj ⟨_,rfl,hQ _ _⟩)
 refine ν<|θ<|al U U<|NZ N0<|dR U<|γ U<|κ U (rfl)<|γ U<|κ U (rfl)<|aG U hv<|κ U (rfl)<|cQ U U<|bE U (rfl) U<|γ U<|κ U (by simp;omega)<|γ U<|κ U (by simp;omega)<|aG U sl<|κ U (by simp;omega)<|cQ U U<|bE U (by simp;omega) U<|ε ?_;refine aE U (by simp;omega)<|ao ?_;refine θ<|γ U<|γ U<|ε ?_;refine θ<|γ U<|ε ?_;refine ν<|θ<|γ U<|aG U sl<|γ U<|ε ?_;refine aK<|ae (akV hC hl oA hx ?_ ?_ _ 0 .ns .ns [] [] h n rfl (by omega) ⟨rfl,Gr.ns (Ext.refl _ _),λj h1=>by simp at h1⟩ ⟨rfl,Gr.ns (Ext.refl _ _),Or.inl U,λj h1=>by simp at h1⟩ (by simp)) ⟨rfl,rfl,rfl,rfl,rfl,rfl,rfl,rfl,rfl,trivial⟩
 ·intro h1 n1 E1 s;exact⟨.b true,by simp only[oK,f4,sW,wa,s.1],hQ _ _⟩
 intro u v w L body h1 n1 E1 e1 sh vW hL3 qJ hu ji hw s;refine dB s ?_;have b:QB vars L body:=⟨sh,vW,hL3,qJ,by omega,Bb⟩;have sD:=akX (op:=op) b;have hsb:=akZ (j:=op) qJ;have hB1:fC h1 n1 vv vars:=ρ.ext hv e1;have AH:=hg.ext e1;refine θ<|γ U<|γ U<|al U U<|w19 hC hB1 (by omega) <| λv2 h2 n2 o2 e2 p2=>γ U<|γ U<|al U U<|w9 hC (hw.ext e2) qJ <| λv3 h3 n3 e3 t3=>al U U<|w18 hC b (AH.ext (e2.trans e3)) (ρ.ext (o2.sl (n:=n2) (p2.imp id And.right)) e3) (ji.ext (e2.trans e3)) t3 <| λv4 h4 n4 e4 t4=>γ U<|dj U U<|dj U U<|γ U<|γ U<|ε ?_;have x4:=(e2.trans e3).trans e4;refine ν<|θ<|γ U<|γ U<|γ U<|γ U<|al U U<|w20 hC b (ρ.ext hB1 x4) (hu.ext x4) (hw.ext x4) <| λv5 h5 n5 e5 t5=>γ U<|dj U U<|dj U U<|γ U<|γ U<|ε ?_;refine θ<|γ U<|γ U<|γ U<|γ U<|al U U<|w15 hC (t4.ext e5) t5 sD<|dR U<|ε ?_;refine aE U U<|ao ?_;have x5:=x4.trans e5;refine θ<|γ U<|al U U<|w9 hC (hw.ext x5) qJ <| λv6 h6 n6 e6 t6=>γ U<|al U U<|w21 hC qJ (AH.ext (x5.trans e6)) t6 <| λv7 h7 n7 e7 t7=>γ U<|dj U U<|dj U U<|γ U<|γ U<|ε ?_;have x7:=(x5.trans e6).trans e7;refine θ<|γ U<|γ U<|al U U<|w22 hC qJ (hw.ext x7) <| λv8 h8 n8 e8 t8=>γ U<|dj U U<|dj U U<|γ U<|γ U<|ε ?_;refine θ<|γ U<|γ U<|γ U<|γ U<|al U U<|w15 hC (t7.ext e8) t8 hsb<|γ U<|ε (aj ⟨_,rfl,hQ _ _⟩)
end
end Go.Ev.X
