/- A part of the proof. -/
import Derived.Test.YtapmaobjhilnfaaGreatDoorG
import Derived.Test.YtapmaobjhilnfaaGreatDoorD
set_option linter.all false
namespace Go.Ev.X
open Go Go.Ev
attribute [local irreducible] WC WO WD SO τ
section
variable {C:Nat->Option bN}{h:Hf}{n:K}{Q:V->Hf->K->Prop}
theorem agx{l:List Int}{m:Nat}(hm:m<l.length):(l.take (m+1)).reverse=l[m]::(l.take m).reverse:=by rw[pg hm,List.reverse_append];rfl
theorem agy{t vf:V}{ts:List Nd}{F:List Nat}{i:Nat}{vv kv:V}{cs:List V}(hs:φ h n 5 t ts.length cs)(hlen:ts.length<1000000)(hi:i<ts.length)(hx:oG h n t.blk (t.off+i*5) ts[i] vv kv)(hF:aQ h n .i64 vf F)(hFl:F.length=ts.length)(CA:∀j,F.getD j 0<=j)(fm:ts[i].kids.length<1000000):
 ∀(m:Nat) (next:Nat),m<=ts[i].kids.length->next<=i->Q (.b (fB (λj=>F.getD j 0) (ts[i].kids.take m).reverse next)) h n->WC C SZ [(k0,t),(k1,vf),(k2,.i .i64 (i:Nat)),(k7,.i .i64 (next:Nat)),(k8,.i .i64 ((m:Int) - 1))] h n (blk 0 (sq C S0 (fq [.t k6] Q))):=by
 intro m
 induction m with
 | zero=>
  intro next hm hn hQ;refine aJ ?_;refine ξ<|ζ<|γ U<|fL U U<|ε ?_;refine ay U (by simp<;>omega)<|bM ?_;refine ζ<|γ U<|ε (Θ ⟨_,rfl,by simpa[fB]using hQ⟩)
 | succ m ih=>
  intro next hm hn hQ;have ω:m<ts[i].kids.length:=by omega
  have e:((m+1:Nat):Int) - 1=(m:Nat):=by omega
  rw[e];rw[agx ω,fB]at hQ;have hg:=hx.kids.get ω 1;generalize Jd:ts[i].kids[m]=kk at*;refine aJ ?_;refine ξ<|ζ<|γ U<|fL U U<|ε ?_;refine an U (by simp<;>omega)<|ae ?_;refine ξ<|aC ?_;by_cases h0:kk<0
  ·refine ξ<|ζ<|γ U<|γ U<|bj U U (hs) (hi)<|ρ U<|ν U (hx.ks _)<|γ U<|bj U U (hx.kids) (ω)<|ν U (hg)<|aO U U<|γ U<|μ U (by simp[h0])<|μ U (by simp[h0])<|μ U (by simp[h0])<|μ U (by simp[h0])<|μ U (by simp[h0])<|μ U (by simp[h0])<|μ U (by simp[h0])<|μ U (by simp[h0])<|μ U (by simp[h0])<|μ U (by simp[h0])<|μ U (by simp[h0])<|aS U (by simp[h0]) U<|ε ?_;refine an U U ?_;rw[au (Or.inl h0)]at hQ;refine ζ<|γ U<|ε (Θ ⟨_,rfl,hQ⟩)
  ·refine ξ<|ζ<|γ U<|γ U<|bj U U (hs) (hi)<|ρ U<|ν U (hx.ks _)<|γ U<|bj U U (hx.kids) (ω)<|ν U (hg)<|aO U U<|γ U<|κ U (by simp[h0])<|γ U<|κ U (by simp[h0])<|γ U<|κ U (by simp[h0])<|bj U U (hs) (hi)<|κ U (by simp[h0])<|ρ U<|κ U (by simp[h0])<|ν U (hx.ks _)<|κ U (by simp[h0])<|γ U<|κ U (by simp[h0])<|bj U U (hx.kids) (ω)<|κ U (by simp[h0])<|ν U (hg)<|κ U (by simp[h0])<|γ U<|κ U (by simp[h0])<|iz U U ⟨by omega,by omega⟩<|κ U (by simp[h0])<|dE U U<|aK U (by simp[h0]) U<|ε ?_;by_cases h1:kk=(next:Int) - 1
   ·refine ay U (by simp[h1])<|ae ?_;rw[Ξ (by omega)]at hQ;obtain⟨k',gJ⟩:∃k':Nat,kk=(k':Int):=⟨kk.toNat,by omega⟩;have OI:=hg;rw[gJ]at hQ OI;have Jn:k'<F.length:=by omega
    have hgF:=hF.get Jn 1;have hle:=CA k';rw[jm Jn]at hle;rw[show((k':Nat):Int).toNat=k' from rfl]at hQ;simp only[jm Jn]at hQ;refine aL<|γ U<|γ U<|γ U<|bj U U (hs) (hi)<|ρ U<|ν U (hx.ks _)<|γ U<|bj U U (hx.kids) (ω)<|ν U (OI)<|bj U U (hF) (Jn)<|ν U (hgF)<|γ U<|ε ?_;refine aL<|γ U<|iz U U ⟨by omega,by omega⟩<|γ U<|ε ?_;exact Γ (ih F[k'] (by omega) (by omega) hQ) ⟨rfl,rfl,rfl,rfl,rfl,trivial⟩
   ·refine an U (by simp[h1]) ?_;rw[au (Or.inr h1)]at hQ;refine ζ<|γ U<|ε (Θ ⟨_,rfl,hQ⟩)
theorem YA(hC:Cd C){t vf:V}{ts:List Nd}{F:List Nat}{i:Nat}(ht:dA h n t ts)(hlen:ts.length<1000000)(hi:i<ts.length)(hF:aQ h n .i64 vf F)(hFl:F.length=ts.length)(CA:∀j,F.getD j 0<=j)(fm:ts[i].kids.length<1000000)
 (hQ:Q (.b (fB (λj=>F.getD j 0) ts[i].kids.reverse i)) h n):τ C (.f 80 [] []) [t,vf,.i .i64 (i:Nat)] h n Q:=by
 obtain⟨cs,hs⟩:=ht.sl;obtain⟨vv,kv,hx⟩:=ht.node hi;refine τ.go hC.f80 U ?_;refine ζ<|γ U<|ε ?_;refine ζ<|γ U<|γ U<|ε ?_;refine ξ<|ζ<|γ U<|γ U<|bj U U (hs) (hi)<|ρ U<|ν U (hx.ks _)<|az U (hx.kids)<|iz U U ⟨by omega,by omega⟩<|γ U<|ε ?_;exact aC<|Γ (agy hs hlen hi hx hF hFl CA fm ts[i].kids.length i (χ _) (χ _) (by rw[gM];exact hQ)) ⟨rfl,rfl,rfl,rfl,rfl,trivial⟩
def fz(ts:List Nd)(i:Nat):List Nat:=fl ts i++List.replicate (ts.length - i) 0
theorem agA{ts:List Nd}{i:Nat}(hi:i<=ts.length):(fz ts i).length=ts.length:=by simp[fz,mW];omega
theorem MS{ts:List Nd}{i j:Nat}(hj:j<i):(fz ts i).getD j 0=(fl ts i).getD j 0:=by rw[fz,fj,wu (by rw[mW];exact hj),←fj]
theorem MT{ts:List Nd}{i x:Nat}(hi:i<ts.length)(hx:x=tv ts (fl ts i) i):(fz ts i).set i x=fz ts (i+1):=by
 unfold fz;rw[List.set_append_right _ _ (by rw[mW];exact χ _),mW,qc,fl];have:ts.length - i=(ts.length - (i+1))+1:=by omega
 rw[this,DA,List.set_cons_zero,Bz,hx];rfl
theorem agB(ts:List Nd)(i j:Nat):(fz ts i).getD j 0<=j:=by
 by_cases hj:j<i
 ·rw[MS hj];exact It ts
 ·rw[fz,fj,zw (by rw[mW];omega),List.getElem?_replicate];split<;>simp
theorem agC(hC:Cd C){t:V}{ts:List Nd}{bo:K}{h0:Hf}{n0:K}(ht:dA h0 n0 t ts)(hlen:ts.length<1000000)(fm:∀i (hi:i<ts.length),ts[i].kids.length<1000000)(Dc:n0.num<=bo.num){Q1:Ex->Env->Hf->K->Prop}(Gy:n0.num<=n.num)
 (hQ:∀h E',Ext h0 n0 h n->Cl h n bo (nC .i64 (fl ts ts.length)) 3->dK [(k3,.sl bo 0 ts.length ts.length)] E'->Q1 .normal E' h n):
 ∀(m i:Nat) (h:Hf),ts.length - i=m->i<=ts.length->Ext h0 n0 h n->Cl h n bo (nC .i64 (fz ts i)) 3->WC C SY [(k0,t),(k3,.sl bo 0 ts.length ts.length),(k4,.i .i64 (i:Nat))] h n (blk 0 Q1):=by
 intro m
 induction m with
 | zero=>
  intro i h hm hi he hc;have:i=ts.length:=by omega
  subst this;obtain⟨cs,hs⟩:=(ht.ext he).sl;refine aJ ?_;refine ξ<|ζ<|γ U<|γ U<|az U (hs)<|aO U U<|ε ?_;refine ay U (by simp)<|bM (hQ h _ he ?_ ⟨rfl,trivial⟩);have:fz ts ts.length=fl ts ts.length:=by simp[fz]
  rw[←this];exact hc
 | succ m ih=>
  intro i h hm hi he hc;have ω:i<ts.length:=by omega
  have wg:=ht.ext he;obtain⟨cs,hs⟩:=wg.sl;obtain⟨vv,kv,hx⟩:=wg.node ω;have hfl:=agA (ts:=ts) (i:=i) (by omega);have io:=hc.qC hfl;have hif:i<(fz ts i).length:=by omega
  refine aJ ?_;refine ξ<|ζ<|γ U<|γ U<|az U (hs)<|aO U U<|ε ?_;refine an U (by simp<;>omega)<|ae ?_;refine ξ<|aC<|ζ<|γ U<|γ U<|γ U<|bj U U (io) (hif)<|bL U U (hc.2) (yt hif _ (by simp[V.off])) <| λh1 a1 b1=>ε ?_;have wL:Ext h0 n0 h1 n:=he.aj b1 Dc;have y5:=ht.ext wL;obtain⟨cs1,kA⟩:=y5.sl;obtain⟨vv1,kv1,qh⟩:=y5.node ω;have zg:Cl h1 n bo (nC .i64 ((fz ts i).set i i)) 3:=⟨hc.1,a1⟩;have kW:((fz ts i).set i i).length=ts.length:=by rw[mD];exact hfl
  have Fo:=zg.qC kW;have hk:=fm i ω;have MU:=mj ω;have next:∀h2,Ext h0 n0 h2 n->Cl h2 n bo (nC .i64 (fz ts (i+1))) 3->WC C SW [(k0,t),(k3,.sl bo 0 ts.length ts.length),(k4,.i .i64 (i:Nat))] h2 n (sq C (.loop SX) (blk 0 Q1)):=by intro h2 e2 c2;refine aL<|γ U<|cU U U ⟨by omega,by omega⟩<|γ U<|ε ?_;exact Γ (ih (i+1) h2 (by omega) (by omega) e2 c2) ⟨rfl,rfl,rfl,trivial⟩
  cases nk:ts[i].kids with
  | nil=>
   have dJ:tv ts (fl ts i) i=i:=by unfold tv;rw[MU,nk]
   refine ζ<|γ U<|γ U<|bj U U (kA) (ω)<|ρ U<|ν U (qh.ks _)<|az U (qh.kids)<|cS U U<|γ U<|μ U (by simp[nk])<|μ U (by simp[nk])<|μ U (by simp[nk])<|μ U (by simp[nk])<|aK U (by simp[nk]) U<|ε ?_;refine ay U U<|ae ?_;exact Γ (next h1 wL (by rw[←MT ω dJ.symm];exact zg)) ⟨rfl,rfl,rfl,trivial⟩
  | cons k ks=>
   have CA:∀j,((fz ts i).set i i).getD j 0<=j:=by
    intro j;rw[yJ];split
    ·omega
    ·exact agB ts i j
   have ho:fB (λj=>((fz ts i).set i i).getD j 0) ts[i].kids.reverse i=ord ts i:=by rw[←Iu ts i (χ i),MU];refine VE λj hj=>⟨?_,by have:=CA j;omega⟩;show((fz ts i).set i i).getD j 0=_;rw[yJ,Ξ (by omega),MS (by omega)]
   have dJ:tv ts (fl ts i) i=if ord ts i then (fl ts i).getD k.toNat 0 else i:=by unfold tv;rw[MU,nk];simp only;have:=Iu ts i (χ i);rw[MU,nk]at this;rw[this]
   refine ζ<|γ U<|γ U<|bj U U (kA) (ω)<|ρ U<|ν U (qh.ks _)<|az U (qh.kids)<|cS U U<|γ U<|κ U (by simp[nk])<|γ U<|κ U (by simp[nk])<|γ U<|κ U (by simp[nk])<|γ U<|κ U (by simp[nk])<|ak U U<|YA hC y5 hlen ω (Fo.up (χ _)) kW CA hk<|aS U (by simp[nk]) U<|ε ?_;rw[ho];refine cB U (λjA=>?_) (λjA=>ae ?_)
   ·rw[jA]at dJ;have vP:=xc jA k (by rw[MU,nk];simp);obtain⟨k',rfl⟩:∃k':Nat,k=(k':Int):=⟨k.toNat,by omega⟩;have ja:0<ts[i].kids.length:=by rw[nk];simp
    have Jp:=qh.kids.get ja 1;simp only[nk,uq]at Jp;have IC:k'<((fz ts i).set i i).length:=by omega
    have Fp:=Fo.get IC 1;have hv:((fz ts i).set i i)[k']=tv ts (fl ts i) i:=by rw[dJ,au rfl,←jm IC,yJ,Ξ (by omega),MS (by omega)];rfl
    rw[hv]at Fp;have Wb:i<((fz ts i).set i i).length:=by omega
    refine aL<|γ U<|γ U<|γ U<|γ U<|γ U<|bj U U (kA) (ω)<|ρ U<|ν U (qh.ks _)<|bj U U (qh.kids) (ja)<|ν U (Jp)<|bj U U (Fo) (IC)<|ν U (Fp)<|bj U U (Fo) (Wb)<|bL U U (zg.2) (yt Wb _ (by simp[V.off])) <| λh2 a2 b2=>ε ?_;rw[List.set_set,MT ω rfl]at a2;exact Γ (next h2 (wL.aj b2 Dc) ⟨hc.1,a2⟩) ⟨rfl,rfl,rfl,trivial⟩
   ·rw[jA]at dJ;exact Γ (next h1 wL (by rw[←MT ω (by rw[dJ])];exact zg)) ⟨rfl,rfl,rfl,trivial⟩
theorem w78(hC:Cd C){t:V}{ts:List Nd}(ht:dA h n t ts)(hlen:ts.length<1000000)(fm:∀i (hi:i<ts.length),ts[i].kids.length<1000000)
 (hQ:∀v' h' n',Ext h n h' n'->aQ h' n' .i64 v' (fl ts ts.length)->Q v' h' n'):τ C (.f 78 [] []) [t] h n Q:=by
 refine τ.go hC.f78 U ?_;obtain⟨cs,hs⟩:=ht.sl;refine ζ<|γ U<|ε ?_;refine ζ<|γ U<|az U (hs)<|wS U U (by omega) (by omega) <| λh1 n1 dS a1 e1=>γ U<|ε ?_;rw[Ao]at a1;have zg:Cl h1 n1 n (nC .i64 (fz ts 0)) 3:=⟨by omega,by rw[a1];simp[fz,fl]⟩;refine ξ<|ζ<|γ U<|ε ?_;refine aC<|Γ (agC hC ht hlen fm (χ _) e1.1 ?_ _ 0 h1 rfl (by omega) e1 zg) ⟨rfl,rfl,rfl,trivial⟩;intro h2 E2 e2 c2 s2;refine dQ s2 ?_;refine ζ<|γ U<|γ U<|ε (Θ ⟨_,rfl,hQ _ h2 n1 e2 (c2.qC (mW ts _))⟩)
end
section
variable {C:Nat->Option bN}{h:Hf}{n:K}{Q:V->Hf->K->Prop}
section
variable {h0:Hf}{n0 bo:K}{t:V}{ts:List Nd}
theorem agG{i:Nat}(hlen:ts.length<1000000)(hi:i<ts.length)(ht:dA h n t ts)(fm:ts[i].kids.length<1000000)(hr:∀k∈ts[i].kids,k<i/\0<=k)(hc:Cl h n bo (ij .i64 (dz ts i)) 3){Q1:Ex->Env->Hf->K->Prop}
 (hQ:∀E',dK [(k0,t),(k3,.sl bo 0 ts.length ts.length),(k4,.i .i64 (i:Nat)),(k5,.i .i64 (xd (dl ts i) ts[i].kids 0))] E'->Q1 .normal E' h n):
 ∀(m j:Nat) (d:Int),ts[i].kids.length - j=m->j<=ts[i].kids.length->xd (dl ts i) (ts[i].kids.drop j) d=xd (dl ts i) ts[i].kids 0->0<=d->d<=i->WC C TS [(k0,t),(k3,.sl bo 0 ts.length ts.length),(k4,.i .i64 (i:Nat)),(k5,.i .i64 d),(k6,.i .i64 (j:Nat))] h n (blk 2 Q1):=by
 intro m;obtain⟨cs,hs⟩:=ht.sl;obtain⟨vv,kv,hx⟩:=ht.node hi
 induction m with
 | zero=>
  intro j d hm hj hd h0 h1;have:j=ts[i].kids.length:=by omega
  subst this;refine aJ ?_;refine ξ<|ζ<|γ U<|γ U<|γ U<|bj U U (hs) (hi)<|ρ U<|ν U (hx.ks _)<|az U (hx.kids)<|aO U U<|ε ?_;rw[gY]at hd;refine ay U (by simp)<|bM (hQ _ ⟨rfl,rfl,rfl,?_,trivial⟩);rw[←hd];rfl
 | succ m ih=>
  intro j d hm hj hd h0 h1;have ω:j<ts[i].kids.length:=by omega
  have hg:=hx.kids.get ω 1;have qz:=hr ts[i].kids[j] (fW _);rw[fC ω]at hd;obtain⟨k',gJ⟩:∃k':Nat,ts[i].kids[j]=(k':Int):=⟨ts[i].kids[j].toNat,by omega⟩;rw[gJ]at hg qz hd;have MV:(dz ts i).length=ts.length:=AJ (by omega);have io:=hc.Jo MV;have KC:k'<(dz ts i).length:=by omega
  have Fp:=io.get KC 1;have qh:(dz ts i)[k']=(dl ts i).getD k' 0:=by rw[←Iw KC,My (by omega)]
  rw[qh]at Fp;have hb:=Mx ts i k';refine aJ ?_;refine ξ<|ζ<|γ U<|γ U<|γ U<|bj U U (hs) (hi)<|ρ U<|ν U (hx.ks _)<|az U (hx.kids)<|aO U U<|ε ?_;refine an U (by simp<;>omega)<|ae ?_;refine ξ<|aC<|aL<|γ U<|γ U<|γ U<|γ U<|bj U U (hs) (hi)<|ρ U<|ν U (hx.ks _)<|γ U<|bj U U (hx.kids) (ω)<|ν U (hg)<|bj U U (io) (KC)<|ν U (Fp)<|K2 U U<|γ U<|ε ?_;refine aL<|γ U<|cU U U ⟨by omega,by omega⟩<|γ U<|ε ?_;refine Γ (ih (j+1) (max d ((dl ts i).getD k' 0)) (by omega) (by omega) ?_ (by omega) (by omega)) ⟨rfl,rfl,rfl,rfl,rfl,trivial⟩;rw[←hd];rfl
theorem agH(ht:dA h0 n0 t ts)(hlen:ts.length<1000000)(fm:∀i (hi:i<ts.length),ts[i].kids.length<1000000)(ho:∀j,j<ts.length->ord ts j=true)(Dc:n0.num<=bo.num){Q1:Ex->Env->Hf->K->Prop}
 (hQ:∀h E',Ext h0 n0 h n->Cl h n bo (ij .i64 (dl ts ts.length)) 3->dK [(k3,.sl bo 0 ts.length ts.length)] E'->Q1 .normal E' h n):
 ∀(m i:Nat) (h:Hf),ts.length - i=m->i<=ts.length->Ext h0 n0 h n->Cl h n bo (ij .i64 (dz ts i)) 3->WC C TT [(k0,t),(k3,.sl bo 0 ts.length ts.length),(k4,.i .i64 (i:Nat))] h n (blk 0 Q1):=by
 intro m
 induction m with
 | zero=>
  intro i h hm hi he hc;have:i=ts.length:=by omega
  subst this;obtain⟨cs,hs⟩:=(ht.ext he).sl;refine aJ ?_;refine ξ<|ζ<|γ U<|γ U<|az U (hs)<|aO U U<|ε ?_;refine ay U (by simp)<|bM (hQ h _ he ?_ ⟨rfl,trivial⟩);have:dz ts ts.length=dl ts ts.length:=by simp[dz]
  rw[←this];exact hc
 | succ m ih=>
  intro i h hm hi he hc;have ω:i<ts.length:=by omega
  have wg:=ht.ext he;obtain⟨cs,hs⟩:=wg.sl;refine aJ ?_;refine ξ<|ζ<|γ U<|γ U<|az U (hs)<|aO U U<|ε ?_;refine an U (by simp<;>omega)<|ae ?_;refine ξ<|aC<|ζ<|γ U<|ε ?_;refine ξ<|ζ<|γ U<|ε ?_;refine aC<|Γ (agG (i:=i) hlen ω wg (fm i ω) (by have:=xc (ho i ω);rw[mj ω]at this;exact this) hc ?_ _ 0 0 rfl (by omega) (by rw[jr]) (by omega) (by omega)) ⟨rfl,rfl,rfl,rfl,rfl,trivial⟩;intro E1 s1;refine dQ s1 ?_;have MV:(dz ts i).length=ts.length:=AJ (by omega);have io:=hc.Jo MV;have Ef:i<(dz ts i).length:=by omega
  have hb:=VK (l:=dl ts i) (b:=i) ts[i].kids 0 (λk=>(Mx ts i k).1) (by omega);refine aL<|γ U<|γ U<|γ U<|cU U U ⟨by omega,by omega⟩<|bj U U (io) (Ef)<|bL U U (hc.2) (Iv Ef _ (by simp[V.off])) <| λh1 a1 b1=>ε ?_;rw[show xd (dl ts i) ts[i].kids 0=xd (dl ts i) (iC ts i) 0 by rw[mj ω],VL ω]at a1;refine aL<|γ U<|cU U U ⟨by omega,by omega⟩<|γ U<|ε ?_;exact Γ (ih (i+1) h1 (by omega) (by omega) (he.aj b1 Dc) ⟨hc.1,a1⟩) ⟨rfl,rfl,rfl,trivial⟩
end
theorem w85(hC:Cd C){t:V}{ts:List Nd}(ht:dA h n t ts)(hlen:ts.length<1000000)(fm:∀i (hi:i<ts.length),ts[i].kids.length<1000000)(ho:∀j,j<ts.length->ord ts j=true)
 (hQ:∀v' h' n',Ext h n h' n'->eL h' n' .i64 v' (dl ts ts.length)->Q v' h' n'):τ C (.f 85 [] []) [t] h n Q:=by
 refine τ.go hC.f85 U ?_;obtain⟨cs,hs⟩:=ht.sl;refine ζ<|γ U<|ε ?_;refine ζ<|γ U<|az U (hs)<|wS U U (by omega) (by omega) <| λh1 n1 dS a1 e1=>γ U<|ε ?_;rw[VM]at a1;have zg:Cl h1 n1 n (ij .i64 (dz ts 0)) 3:=⟨by omega,by rw[a1];simp[dz,dl]⟩;refine ξ<|ζ<|γ U<|ε ?_;refine aC<|Γ (agH ht hlen fm ho (χ _) ?_ _ 0 h1 rfl (by omega) e1 zg) ⟨rfl,rfl,rfl,trivial⟩;intro h2 E2 e2 c2 s2;refine dQ s2 ?_;refine ζ<|γ U<|γ U<|ε (Θ ⟨_,rfl,hQ _ h2 n1 e2 (c2.Jo (rO ts _))⟩)
theorem agI(hC:Cd C){t:V}{ts:List Nd}{x:Nd}{vv kv:V}{b:K}(ht:dA h n t ts)(hlen:ts.length<1000000)(hk:eL h n .i64 kv x.kids)(fm:x.kids.length<1000000)(hr:∀k∈x.kids,0<=k/\k<ts.length)(hb:Cl h n b (cR x vv kv) 69):
 ∀(r j:Nat),x.kids.length - j=r->j<=x.kids.length->Q (.b (!nN ts x.op x.kids.length (x.kids.drop j) j)) h n->WC C S7 [(k0,t),(k3,.p b 0),(k5,.i .i64 (j:Nat))] h n (blk 0 (sq C Lr (fq [.t k4] Q))):=by
 intro r
 induction r with
 | zero=>
  intro j hj C6 hQ;have:j=x.kids.length:=by omega
  subst this;refine aJ ?_;refine ξ<|ζ<|γ U<|ρ U<|ν U (hb.ld U _)<|az U (hk)<|aO U U<|ε ?_;refine ay U (by simp)<|bM ?_;refine ζ<|γ U<|ε (Θ ⟨_,rfl,by simpa[nN]using hQ⟩)
 | succ r ih=>
  intro j hj C6 hQ;have ω:j<x.kids.length:=by omega
  have qz:=hr x.kids[j] (fW _);rw[fC ω,nN]at hQ;obtain⟨k',gJ⟩:∃k':Nat,x.kids[j]=(k':Int):=⟨x.kids[j].toNat,by omega⟩;have hg:=hk.get ω 1;rw[gJ]at qz hQ hg;have AI:k'<ts.length:=by omega
  obtain⟨vv',kv',hx⟩:=ht.node AI;obtain⟨cs,hs⟩:=ht.sl;rw[show((k':Int)).toNat=k' from rfl,Ff AI]at hQ;have fin:∀(due:Bool),(if x.op=17\/x.op=18 then decide (ts[k'].op=19)==decide ((j:Int)=(x.kids.length:Int) - 1) else decide (ts[k'].op=19))=!(decide (ts[k'].op=19)==due)->WC C S4 [(k0,t),(k3,.p b 0),(k5,.i .i64 (j:Nat)),(k6,.b due)] h n (blk 1 (sq C S5 (sq C (.loop S6) (blk 0 (sq C Lr (fq [.t k4] Q)))))):=by
   intro due hd;rw[hd]at hQ;refine ζ<|γ U<|ρ U<|ν U (hb.ld U _)<|γ U<|bj U U (hk) (ω)<|ν U (hg)<|bj U U (hs) (AI)<|ρ U<|ν U (hx.op _)<|bm U U<|γ U<|KZ U U<|ε ?_;refine cB U (λhc=>?_) (λhc=>ae ?_)
   ·rw[hc]at hQ;refine ζ<|γ U<|ε (Θ ⟨_,rfl,by simpa using hQ⟩)
   ·rw[hc]at hQ;refine aL<|γ U<|cU U U ⟨by omega,by omega⟩<|γ U<|ε ?_;exact Γ (ih (j+1) (by omega) (by omega) (by simpa using hQ)) ⟨rfl,rfl,rfl,trivial⟩
  refine aJ ?_;refine ξ<|ζ<|γ U<|ρ U<|ν U (hb.ld U _)<|az U (hk)<|aO U U<|ε ?_;refine an U (by simp<;>omega)<|ae<|ξ<|aC ?_;by_cases hq:x.op=17\/x.op=18
  ·refine ζ<|ρ U<|ν U (hb.ld U _)<|ak U U<|MQ hC<|γ U<|κ U (by simp[hq])<|γ U<|κ U (by simp[hq])<|ρ U<|κ U (by simp[hq])<|ν U (hb.ld U _)<|κ U (by simp[hq])<|az U (hk)<|κ U (by simp[hq])<|iz U U ⟨by omega,by omega⟩<|κ U (by simp[hq])<|aO U U<|aS U (by simp[hq]) U<|γ U<|ε ?_;refine Γ (fin (decide ((j:Int)<(x.kids.length:Int) - 1)) ?_) ⟨rfl,rfl,rfl,rfl,trivial⟩;rw[au hq];have:decide ((j:Int)=(x.kids.length:Int) - 1)=!decide ((j:Int)<(x.kids.length:Int) - 1):=by
    by_cases h:(j:Int)<(x.kids.length:Int) - 1
    ·simp[h];omega
    ·simp[h];omega
   rw[this];cases decide (ts[k'].op=19)<;>cases decide ((j:Int)<(x.kids.length:Int) - 1)<;>rfl
  ·refine ζ<|ρ U<|ν U (hb.ld U _)<|ak U U<|MQ hC<|γ U<|μ U (by simp[hq])<|μ U (by simp[hq])<|μ U (by simp[hq])<|μ U (by simp[hq])<|μ U (by simp[hq])<|μ U (by simp[hq])<|aK U (by simp[hq]) U<|γ U<|ε ?_;refine Γ (fin false ?_) ⟨rfl,rfl,rfl,rfl,trivial⟩;rw[Ξ hq];cases decide (ts[k'].op=19)<;>rfl
theorem w81(hC:Cd C){t:V}{ts:List Nd}{x:Nd}{vv kv:V}(ht:dA h n t ts)(hlen:ts.length<1000000)(hv:vv.one=true)(hk:eL h n .i64 kv x.kids)(fm:x.kids.length<1000000)(hr:∀k∈x.kids,0<=k/\k<ts.length)
 (hQ:∀h' n',Ext h n h' n'->Q (.b (!nN ts x.op x.kids.length x.kids 0)) h' n'):τ C (.f 81 [] []) [t,.a (cR x vv kv)] h n Q:=by
 refine τ.go hC.f81 U ?_;refine ζ<|et U (rfl) (kc x hv (φ.one hk)) <| λh1 n1 dS a1 e1=>γ U<|ε ?_;refine ξ<|ζ<|γ U<|ε ?_;exact aC<|Γ (agI hC (ht.ext e1) hlen (hk.ext e1) fm hr ⟨by omega,a1⟩ _ 0 rfl (by omega) (hQ _ _ e1)) ⟨rfl,rfl,rfl,trivial⟩
def ke(x:Nd):Int:=
 if x.op=2 then (if isNumeral x.name then 0 else 6) else if x.op=3 then (if rS x.name then 0 else 6) else if x.op=4 then (if x.name=[] then 6 else 0) else (if x.name=[] then 0 else 6)
theorem w82(hC:Cd C){x:Nd}{vv kv:V}(hv:vv.one=true)(hk:kv.one=true)(hl:x.name.length<1000000)(hQ:∀h' n',Ext h n h' n'->Q (.i .i64 (ke x)) h' n'):τ C (.f 82 [] []) [.a (cR x vv kv)] h n Q:=by
 refine τ.go hC.f82 U ?_;refine ζ<|et U (rfl) (kc x hv hk) <| λh1 n1 dS a1 e1=>γ U<|ε ?_;have lo:aX h1 false 1 (.p n (0+0))=some (.i .i64 x.op):=dL a1 rfl _;have ln:aX h1 false 1 (.p n (0+2))=some (st x.name):=dL a1 rfl _;refine ζ<|ρ U<|ν U (ln)<|en (b:=[]) U U<|γ U<|ε ?_;refine ξ<|ζ<|ρ U<|ν U (lo)<|ε ?_;have fin:∀(b:Bool) h2 n2,Ext h1 n1 h2 n2->ke x=(if b then 0 else 6)->WC C S8 [(k3,.b b)] h2 n2 (fq [.t k2] Q):=by intro b h2 n2 e2 hb;have:=hQ h2 n2 (e1.trans e2);rw[hb]at this;refine ζ<|γ U<|di U<|ak U U<|qB hC<|γ U<|ε (Θ ⟨_,rfl,by cases b<;>simpa using this⟩)
 refine aC<|ζ<|bm U U<|γ U<|ε ?_;refine cB U (λhx=>?_) (λhx=>?_)
 ·simp only[bA]at hx;refine aL<|ρ U<|ν U (ln)<|ak U U<|agq hC hl <| λh2 n2 e2=>γ U<|ε ?_;exact Γ (fin (isNumeral x.name) h2 n2 e2 (by simp[ke,hx])) ⟨rfl,trivial⟩
 simp only[cV]at hx;refine ζ<|bm U U<|γ U<|ε ?_;refine cB U (λjA=>?_) (λjA=>?_)
 ·simp only[bA]at jA;refine aL<|ρ U<|ν U (ln)<|ak U U<|V9 hC hl<|γ U<|ε ?_;exact Γ (fin (rS x.name) _ _ (Ext.refl _ _) (by simp[ke,jA])) ⟨rfl,trivial⟩
 simp only[cV]at jA;refine ζ<|bm U U<|γ U<|ε ?_;refine cB U (λmA=>?_) (λmA=>ae ?_)
 ·simp only[bA]at mA;refine aL<|ρ U<|ν U (ln)<|iP (b:=[]) U U<|γ U<|ε ?_;refine Γ (fin (!decide (x.name=[])) _ _ (Ext.refl _ _) ?_) ⟨rfl,trivial⟩;by_cases h:x.name=[]<;>simp[ke,mA,h]
 simp only[cV]at mA;refine Γ (fin (decide (x.name=[])) _ _ (Ext.refl _ _) ?_) ⟨rfl,trivial⟩;by_cases h:x.name=[]<;>simp[ke,hx,jA,mA,h]
end
section
variable {C:Nat->Option bN}{h:Hf}{n:K}{Q:V->Hf->K->Prop}
def yL(l:List (S×S)):Nat->Nat->Int
 | 0,_=>0
 | m+1,i=>match l[i]? with
  | none=>0
  | some v=>if rS v.1=false then 6 else if v.1∈(l.take i).map Prod.fst then 7 else yL l m (i+1)
def kf(x:Nd):Int:=
 if x.op=17\/x.op=18 then (if x.vars.length<1\/12<x.vars.length then 5 else yL x.vars x.vars.length 0) else if 0<x.vars.length then 5 else 0
theorem ep.sub{h:Hf}{n0:K}{v:V}{l:List (S×S)}{i j:Nat}(a:φ h n0 2 v (j - i) (((lh l).drop (i*2)).take ((j - i)*2)))(hj:j<=l.length):ep h n0 v ((l.drop i).take (j - i)):=by
 rw[Q4]at a;unfold ep;have:((l.drop i).take (j - i)).length=j - i:=by simp;omega
 rw[this];exact a
theorem agJ(hC:Cd C){x:Nd}{vv kv:V}{b:K}(hv:ep h n vv x.vars)(sd:x.vars.length<1000)(AQ:∀v∈x.vars,v.1.length<1000000)(hb:Cl h n b (cR x vv kv) 69):
 ∀(m i:Nat),x.vars.length - i=m->i<=x.vars.length->Q (.i .i64 (yL x.vars m i)) h n->WC C TL [(k1,.p b 0),(k5,.i .i64 (i:Nat))] h n (blk 0 (sq C TM (fq [.t k2] Q))):=by
 intro m;have lv:aX h false 1 (.p b (0+3))=some vv:=hb.ld U _
 induction m with
 | zero=>
  intro i hm hi hQ;have:i=x.vars.length:=by omega
  subst this;refine aJ ?_;refine ξ<|ζ<|γ U<|ρ U<|ν U (lv)<|az U (hv)<|aO U U<|ε ?_;refine ay U (by simp)<|bM ?_;refine ζ<|γ U<|ε (Θ ⟨_,rfl,hQ⟩)
 | succ m ih=>
  intro i hm hi hQ;have ω:i<x.vars.length:=by omega
  simp only[yL,fO ω]at hQ;have MW:=AQ _ (fW ω);refine aJ ?_;refine ξ<|ζ<|γ U<|ρ U<|ν U (lv)<|az U (hv)<|aO U U<|ε ?_;refine an U (by simp<;>omega)<|ae ?_;refine ξ<|aC<|ξ<|ζ<|ρ U<|ν U (lv)<|γ U<|bj U U (hv) (ω)<|ρ U<|ν U (hv.name ω _)<|ak U U<|V9 hC MW<|di U<|ak U U<|qB hC<|γ U<|ε ?_;cases hp:rS x.vars[i].1 with
  | false=>
   rw[hp]at hQ;refine ζ<|γ U<|dE U U<|ε ?_;refine an U (by simp) ?_;refine ζ<|γ U<|γ U<|ε (Θ ⟨_,rfl,by simpa using hQ⟩)
  | true=>
   rw[hp]at hQ;refine ζ<|γ U<|dE U U<|ε ?_;refine ay U (by simp)<|ae ?_;refine dh<|bX U<|aD U (lv) (hv.below (χ _)) (φ.da hv)<|ao U<|Rv U (hv) U U (by omega) ((show i<=_ by omega)) <| λv3 i3 l3=>bX U<|aD U (lv) (hv.below (χ _)) (φ.da hv)<|ao U<|cX U U (hv) (ω)<|bX U<|aD U (hv.name ω _) (rfl) (fA _ _)<|cj U U<|agv hC (ep.sub i3 (by omega)) (by simp<;>omega)<|Ey U U<|cG (by simp[AG,gP,jW,Nat.testBit]) ?_;rw[VI,jr,qb];refine cB U (λhc=>?_) (λhc=>ae ?_)
   ·simp only[bA]at hc;rw[Ξ (by simp),au hc]at hQ;refine ζ<|γ U<|ε (Θ ⟨_,rfl,hQ⟩)
   ·simp only[cV]at hc;rw[Ξ (by simp),Ξ hc]at hQ;refine aL<|γ U<|cU U U ⟨by omega,by omega⟩<|γ U<|ε ?_;exact Γ (ih (i+1) (by omega) (by omega) hQ) ⟨rfl,rfl,trivial⟩
theorem w83(hC:Cd C){x:Nd}{vv kv:V}(hv:ep h n vv x.vars)(hk:kv.one=true)(sd:x.vars.length<1000)(AQ:∀v∈x.vars,v.1.length<1000000)(hQ:∀h' n',Ext h n h' n'->Q (.i .i64 (kf x)) h' n'):τ C (.f 83 [] []) [.a (cR x vv kv)] h n Q:=by
 refine τ.go hC.f83 U ?_;refine ζ<|et U (rfl) (kc x (φ.one hv) hk) <| λh1 n1 dS a1 e1=>γ U<|ε ?_;have hb:Cl h1 n1 n (cR x vv kv) 69:=⟨by omega,a1⟩;have lv:aX h1 false 1 (.p n (0+3))=some vv:=hb.ld U _;have lo:aX h1 false 1 (.p n (0+0))=some (.i .i64 x.op):=hb.ld U _;have mT:=hv.ext e1;have hQ:=hQ h1 n1 e1;have go:kf x=yL x.vars x.vars.length 0->WC C LA [(k1,.p n 0)] h1 n1 (fq [.t k2] Q):=by intro he;rw[he]at hQ;refine ξ<|ζ<|γ U<|ε ?_;exact aC<|Γ (agJ hC mT sd AQ hb _ 0 rfl (by omega) hQ) ⟨rfl,rfl,trivial⟩
 have bad:kf x=5->WC C TK [] h1 n1 (sq C LA (fq [.t k2] Q)):=by intro he;rw[he]at hQ;refine ζ<|γ U<|ε (Θ ⟨_,rfl,hQ⟩)
 refine ζ<|γ U<|γ U<|ε ?_;refine ξ<|ζ<|ρ U<|ν U (lo)<|ak U U<|MQ hC<|ε ?_;by_cases hq:x.op=17\/x.op=18
 ·refine an U (by simp[hq]) ?_;refine aL<|γ U<|γ U<|ε ?_;by_cases h1:x.vars.length<1
  ·refine ξ<|ζ<|ρ U<|ν U (lv)<|az U (mT)<|γ U<|aO U U<|γ U<|μ U (by simp<;>omega)<|μ U (by simp<;>omega)<|μ U (by simp<;>omega)<|μ U (by simp<;>omega)<|μ U (by simp<;>omega)<|aS U (by simp<;>omega) U<|ε ?_;exact an U U<|Γ (bad (by simp only[kf,au hq,au (Or.inl h1)])) trivial
  ·refine ξ<|ζ<|ρ U<|ν U (lv)<|az U (mT)<|γ U<|aO U U<|γ U<|κ U (by simp<;>omega)<|ρ U<|κ U (by simp<;>omega)<|ν U (lv)<|κ U (by simp<;>omega)<|az U (mT)<|κ U (by simp<;>omega)<|γ U<|κ U (by simp<;>omega)<|cS U U<|aK U (by simp<;>omega) U<|ε ?_;by_cases h2:12<x.vars.length
   ·exact an U (by simp<;>omega)<|Γ (bad (by simp only[kf,au hq,au (Or.inr h2)])) trivial
   ·exact ay U (by simp<;>omega)<|ae<|Γ (go (by simp only[kf,au hq];rw[Ξ (by omega)])) ⟨rfl,trivial⟩
 ·refine ay U (by simp[hq])<|ae ?_;refine ξ<|ζ<|ρ U<|ν U (lv)<|az U (mT)<|γ U<|aO U U<|γ U<|κ U (by simp<;>omega)<|ρ U<|κ U (by simp<;>omega)<|ν U (lv)<|κ U (by simp<;>omega)<|az U (mT)<|κ U (by simp<;>omega)<|γ U<|κ U (by simp<;>omega)<|cS U U<|aK U (by simp<;>omega) U<|ε ?_;by_cases h2:0<x.vars.length
  ·exact an U (by simp<;>omega)<|Γ (bad (by simp only[kf,Ξ hq,au h2])) trivial
  ·refine ay U (gj (by omega))<|ae<|Γ (go ?_) ⟨rfl,trivial⟩;have:x.vars.length=0:=by omega
   simp only[kf,Ξ hq,Ξ h2,this];rfl
def nP(x:Nd):Int:=
 if x.op=2 then (if x.sort=nO/\gu x.name=0\/x.sort=oO/\nM x.name=0 then 0 else 13)
 else if x.op=12\/x.op=13\/x.op=14 then (if x.sort=nO\/x.sort=oO then 0 else 13)
 else if x.op=3\/x.op=4\/x.op=10 then (if x.sort=[] then 13 else 0)
 else if x.op=19 then (if x.sort=[] then 0 else 13)
 else (if x.sort=Cw then 0 else 13)
theorem w84(hC:Cd C){x:Nd}{vv kv:V}(hv:vv.one=true)(hk:kv.one=true)(hl:x.name.length<1000000)(hQ:∀h' n',Ext h n h' n'->Q (.i .i64 (nP x)) h' n'):τ C (.f 84 [] []) [.a (cR x vv kv)] h n Q:=by
 refine τ.go hC.f84 U ?_;refine ζ<|et U (rfl) (kc x hv hk) <| λh1 n1 dS a1 e1=>γ U<|ε ?_;have lo:aX h1 false 1 (.p n (0+0))=some (.i .i64 x.op):=dL a1 rfl _;have ls:aX h1 false 1 (.p n (0+1))=some (st x.sort):=dL a1 rfl _;have ln:aX h1 false 1 (.p n (0+2))=some (st x.name):=dL a1 rfl _;refine ζ<|ρ U<|ν U (ls)<|en (b:=[66,111,111,108]) U U<|γ U<|ε ?_;refine ξ<|ζ<|ρ U<|ν U (lo)<|ε ?_;have fin:∀(b:Bool) h2 n2,Ext h1 n1 h2 n2->nP x=(if b then 0 else 13)->WC C H9 [(k3,.b b)] h2 n2 (fq [.t k2] Q):=by intro b h2 n2 e2 hb;have:=hQ h2 n2 (e1.trans e2);rw[hb]at this;refine ζ<|γ U<|di U<|ak U U<|qB hC<|γ U<|ε (Θ ⟨_,rfl,by cases b<;>simpa using this⟩)
 generalize eW:x.op=op at*;refine aC<|ζ<|bm U U<|γ U<|ε ?_;refine cB U (λhx=>?_) (λhx=>?_)
 ·simp only[bA]at hx;have YB:x.sort=nO->¬ x.sort=oO:=λe=>by rw[e];decide
  by_cases h1:x.sort=nO
  ·have h2:=YB h1;by_cases h3:gu x.name=0
   ·refine aL<|ρ U<|ν U (ls)<|en (b:=[73,110,116]) U U<|γ U<|κ U (by simp[h1])<|ρ U<|κ U (by simp[h1])<|ν U (ln)<|κ U (by simp[h1])<|ak U U<|Cx hC hl<|κ U (by simp[h1])<|bm U U<|aS U (by simp[h1]) U<|γ U<|μ U (by simp[h3])<|μ U (by simp[h3])<|μ U (by simp[h3])<|μ U (by simp[h3])<|eI U<|eI U<|eI U<|eI U<|μ U (by simp[h3])<|aS U (by simp[h3]) U<|γ U<|ε ?_;exact Γ (fin true _ _ (Ext.refl _ _) (by simp[nP,eW,hx,h1,h3])) ⟨rfl,trivial⟩
   ·refine aL<|ρ U<|ν U (ls)<|en (b:=[73,110,116]) U U<|γ U<|κ U (by simp[h1])<|ρ U<|κ U (by simp[h1])<|ν U (ln)<|κ U (by simp[h1])<|ak U U<|Cx hC hl<|κ U (by simp[h1])<|bm U U<|aS U (by simp[h1]) U<|γ U<|κ U (by simp[h3])<|ρ U<|κ U (by simp[h3])<|ν U (ls)<|κ U (by simp[h3])<|en (b:=[82,101,97,108]) U U<|κ U (by simp[h3])<|γ U<|μ U (by simp[h2])<|μ U (by simp[h2])<|μ U (by simp[h2])<|μ U (by simp[h2])<|κ U (by simp[h3])<|aK U (by simp[h2]) U<|aK U (by simp[h3]) U<|γ U<|ε ?_;exact Γ (fin false _ _ (Ext.refl _ _) (by simp[nP,eW,hx,h1,h3])) ⟨rfl,trivial⟩
  ·by_cases h2:x.sort=oO
   ·refine aL<|ρ U<|ν U (ls)<|en (b:=[73,110,116]) U U<|γ U<|μ U (by simp[h1])<|μ U (by simp[h1])<|μ U (by simp[h1])<|μ U (by simp[h1])<|aK U (by simp[h1]) U<|γ U<|κ U (rfl)<|ρ U<|κ U (rfl)<|ν U (ls)<|κ U (rfl)<|en (b:=[82,101,97,108]) U U<|κ U (rfl)<|γ U<|κ U (by simp[h2])<|ρ U<|κ U (by simp[h2])<|ν U (ln)<|κ U (by simp[h2])<|ak U U<|V8 hC hl <| λh9 n9 e9=>κ U (by simp[h2])<|bm U U<|κ U (rfl)<|aS U (by simp[h2]) U<|aK U (rfl) U<|γ U<|ε ?_;refine Γ (fin (decide (nM x.name=0)) _ _ e9 ?_) ⟨rfl,trivial⟩;by_cases h3:nM x.name=0<;>simp[nP,eW,hx,h2,h3]
   ·refine aL<|ρ U<|ν U (ls)<|en (b:=[73,110,116]) U U<|γ U<|μ U (by simp[h1])<|μ U (by simp[h1])<|μ U (by simp[h1])<|μ U (by simp[h1])<|aK U (by simp[h1]) U<|γ U<|κ U (rfl)<|ρ U<|κ U (rfl)<|ν U (ls)<|κ U (rfl)<|en (b:=[82,101,97,108]) U U<|κ U (rfl)<|γ U<|μ U (by simp[h2])<|μ U (by simp[h2])<|μ U (by simp[h2])<|μ U (by simp[h2])<|κ U (rfl)<|aK U (by simp[h2]) U<|aK U (rfl) U<|γ U<|ε ?_;exact Γ (fin false _ _ (Ext.refl _ _) (by simp[nP,eW,hx,h1,h2])) ⟨rfl,trivial⟩
 simp only[cV]at hx;have f5:op=12\/op=13\/op=14->WC C TR [(k1,.p n 0),(bF,.b true)] h1 n1 (blk 0 (sq C H9 (fq [.t k2] Q))):=by
  intro ho;refine an U U ?_;by_cases h1:x.sort=nO
  ·refine aL<|ρ U<|ν U (ls)<|en (b:=[73,110,116]) U U<|γ U<|μ U (by simp[h1])<|μ U (by simp[h1])<|μ U (by simp[h1])<|aS U (by simp[h1]) U<|γ U<|ε ?_;exact Γ (fin true _ _ (Ext.refl _ _) (by simp only[nP,eW,Ξ hx,au ho,au (Or.inl h1)];rfl)) ⟨rfl,trivial⟩
  ·refine aL<|ρ U<|ν U (ls)<|en (b:=[73,110,116]) U U<|γ U<|κ U (by simp[h1])<|ρ U<|κ U (by simp[h1])<|ν U (ls)<|κ U (by simp[h1])<|en (b:=[82,101,97,108]) U U<|aK U (by simp[h1]) U<|γ U<|ε ?_;refine Γ (fin (decide (x.sort=oO)) _ _ (Ext.refl _ _) ?_) ⟨rfl,trivial⟩;by_cases h2:x.sort=oO<;>simp[nP,eW,hx,ho,h1,h2]
 refine ξ<|ζ<|bm U U<|γ U<|ε ?_;refine cB U (λg0=>ae ?_) (λg0=>?_)
 ·simp only[bA]at g0;exact Γ (f5 (by omega)) ⟨rfl,by show some (V.b _)=_;simp[g0],trivial⟩
 simp only[cV]at g0;refine ζ<|bm U U<|γ U<|ε ?_;refine cB U (λg1=>ae ?_) (λg1=>?_)
 ·simp only[bA]at g1;exact Γ (f5 (by omega)) ⟨rfl,by show some (V.b _)=_;simp[g1],trivial⟩
 simp only[cV]at g1;refine aL<|bm U U<|γ U<|ε ?_;by_cases g2:op=14
 ·exact Γ (f5 (by omega)) ⟨rfl,by show some (V.b _)=_;simp[g2],trivial⟩
 have k1:¬ (op=12\/op=13\/op=14):=by omega
 refine ay U (by simp[g2]) ?_;have f10:op=3\/op=4\/op=10->WC C TQ [(X.k1,.p n 0),(cY,.b true)] h1 n1 (blk 0 (sq C H9 (fq [.t k2] Q))):=by intro ho;refine an U U ?_;refine aL<|ρ U<|ν U (ls)<|iP (b:=[]) U U<|γ U<|ε ?_;refine Γ (fin (!decide (x.sort=[])) _ _ (Ext.refl _ _) ?_) ⟨rfl,trivial⟩;by_cases h2:x.sort=[]<;>simp[nP,eW,hx,k1,ho,h2]
 refine ξ<|ζ<|bm U U<|γ U<|ε ?_;refine cB U (λg3=>ae ?_) (λg3=>?_)
 ·simp only[bA]at g3;exact Γ (f10 (by omega)) ⟨rfl,by show some (V.b _)=_;simp[g3],trivial⟩
 simp only[cV]at g3;refine ζ<|bm U U<|γ U<|ε ?_;refine cB U (λg4=>ae ?_) (λg4=>?_)
 ·simp only[bA]at g4;exact Γ (f10 (by omega)) ⟨rfl,by show some (V.b _)=_;simp[g4],trivial⟩
 simp only[cV]at g4;refine aL<|bm U U<|γ U<|ε ?_;by_cases g5:op=10
 ·exact Γ (f10 (by omega)) ⟨rfl,by show some (V.b _)=_;simp[g5],trivial⟩
 have Ea:¬ (op=3\/op=4\/op=10):=by omega
 refine ay U (by simp[g5]) ?_;refine ζ<|bm U U<|γ U<|ε ?_;refine cB U (λg6=>?_) (λg6=>ae ?_)
 ·simp only[bA]at g6;refine aL<|ρ U<|ν U (ls)<|en (b:=[]) U U<|γ U<|ε ?_;refine Γ (fin (decide (x.sort=[])) _ _ (Ext.refl _ _) ?_) ⟨rfl,trivial⟩;by_cases h2:x.sort=[]<;>simp[nP,eW,hx,k1,Ea,g6,h2]
 simp only[cV]at g6;refine Γ (fin (decide (x.sort=Cw)) _ _ (Ext.refl _ _) ?_) ⟨rfl,trivial⟩;by_cases h2:x.sort=Cw<;>simp[nP,eW,hx,k1,Ea,g6,h2]
end
section
variable {C:Nat->Option bN}{h:Hf}{n:K}{Q:V->Hf->K->Prop}
structure Bd(ts:List Nd):Prop where
 len:ts.length<100000
 pX:∀i (hi:i<ts.length),ts[i].kids.length<1000000
 nm:∀i (hi:i<ts.length),ts[i].name.length<1000000
 vl:∀i (hi:i<ts.length),ts[i].vars.length<1000
 vn:∀i (hi:i<ts.length),∀v∈ts[i].vars,v.1.length<1000000
def rT(op:Int):Bool:=decide (op<0)||decide (20<=op)
def AS(ts:List Nd)(x:Nd):Int:=gQ [if nN ts x.op x.kids.length x.kids 0 then 11 else 0,ke x,kf x,nP x]
def ml(ts:List Nd)(x:Nd)(i:Nat):Int:=gQ [if rT x.op then 11 else 0,if iV x.op x.kids.length then 0 else 2,if ord ts i then 0 else 9]
def nQ(ts:List Nd)(i:Nat):Int:=
 match ts[i]? with
 | none=>0
 | some x=>if ml ts x i≠0 then ml ts x i else AS ts x
def mn(ts:List Nd):Nat->Nat->Int
 | 0,_=>0
 | m+1,i=>if nQ ts i≠0 then nQ ts i else mn ts m (i+1)
def AT(ts:List Nd):Int:=gQ [if fs ts (ts.length - 1)=0 then 0 else 9,if tw ts (ts.length - 1)=19 then 11 else 0,if 60<Fg ts then 24 else 0]
def eH(ts:List Nd):Int:=
 if ts.length=0 then 10 else if 2000<ts.length then 5 else if mn ts ts.length 0≠0 then mn ts ts.length 0 else AT ts
theorem ID{ts:List Nd}{i:Nat}(hi:i<ts.length):nQ ts i=if ml ts ts[i] i≠0 then ml ts ts[i] i else AS ts ts[i]:=by simp[nQ,hi]
theorem MX{ts:List Nd}{x:Nd}{i:Nat}(h:ml ts x i=0):ord ts i=true:=by
 unfold ml at h;rw[MO]at h;by_cases ho:ord ts i=true
 ·exact ho
 ·by_cases h1:rT x.op=true<;>by_cases h2:iV x.op x.kids.length=true<;>simp[h1,h2,ho]at h
theorem Fq{ts:List Nd}{i:Nat}(hi:i<ts.length)(ho:ord ts i=true):∀k∈ts[i].kids,0<=k/\k<ts.length:=by intro k hk;have:=xc ho k (by rw[mj hi];exact hk);omega
theorem agK(hC:Cd C){t vf:V}{ts:List Nd}{i:Nat}(hb:Bd ts)(ht:dA h n t ts)(hF:aQ h n .i64 vf (fl ts ts.length))(hi:i<ts.length)
 {Q1:Ex->Env->Hf->K->Prop}
 (kL:∀E' h' n' e,e=nQ ts i->e≠0->Ext h n h' n'->lk E' k2=some (.i .i64 e)->Q1 .ret E' h' n')
 (jj:nQ ts i=0->∀E' h' n',Ext h n h' n'->dK [(k0,t),(k4,vf),(k5,.i .i64 (i:Nat))] E'->Q1 .normal E' h' n'):
 WC C SQ [(k0,t),(k4,vf),(k5,.i .i64 (i:Nat))] h n Q1:=by
 obtain⟨cs,hs⟩:=ht.sl;obtain⟨vv,kv,hx⟩:=ht.node hi;have gK:=kc ts[i] (φ.one hx.vars) (φ.one hx.kids);refine ζ<|γ U<|γ U<|bj U U (hs) (hi)<|ν U (hx.all)<|du <| λh1 n1 dS a1 e1=>bL U U (a1) (dW rfl rfl gK) <| λh2 a2 b2=>ε ?_;have e2:Ext h n h2 n1:=e1.aj b2 (χ _);have c6:Cl h2 n1 n (cR ts[i] vv kv) 69:=⟨by omega,a2⟩;have row:∀{h' n'},Ext h2 n1 h' n'->aX h' true 5 (.p n 0)=some (.a (cR ts[i] vv kv)):=λe=>bQ (c6.ext e).2 rfl;have jK:∀{h' n'} (k:K),n1.num<=k.num->Ext h2 n1 h' n'->aX (hp h' k none) true 5 (.p n 0)=some (.a (cR ts[i] vv kv)):=λk hk e=>bQ (c6.ext (e.aj (lj _ k none) hk)).2 rfl;have lo:aX h2 false 1 (.p n (0+0))=some (.i .i64 ts[i].op):=c6.ld U _;have Ju:∀{n':K},n.num<=n'.num->bB n' (.a (cR ts[i] vv kv))=true:=by intro n' hn;have h1:=φ.below hx.vars hn;have h2:=φ.below hx.kids hn;simp only[bB,cR,gn,h1,h2];rfl
 have da:cT (.a (cR ts[i] vv kv)) (.a (cR ts[i] vv kv))=true:=by have h1:=φ.da hx.vars;have h2:=φ.da hx.kids;simp only[cT,cR];exact jX (fK _ _) (jX (fA _ _) (jX (fA _ _) (jX h1 (jX h2 rfl))))
 have Jc:=ht.ext e2;have lM:=hx.vars.ext e2;have nw:=hx.kids.ext e2;have hF2:=hF.ext e2;have hfo:=Iu ts i (m:=ts.length) (by omega);rw[mj hi]at hfo;have r0:=row (Ext.refl _ _);have aR:=ID hi;have hFg:∀j,(fl ts ts.length).getD j 0<=j:=λj=>It ts;refine ξ ?_;have mid:∀(E:Env) h3 n3,Ext h2 n1 h3 n3->lk E k0=some t->lk E k4=some vf->lk E k5=some (.i .i64 (i:Nat))->lk E k6=some (.p n 0)->lk E k7=some (.i .i64 (ml ts ts[i] i))->WC C SN E h3 n3 (sq C SP Q1):=by
  intro E h3 n3 e3 g0 g4 g5 g6 g7;refine Γ (E':=[(k0,t),(k4,vf),(k5,.i .i64 (i:Nat)),(k6,.p n 0),(k7,.i .i64 (ml ts ts[i] i))]) ?_ ⟨g0,g4,g5,g6,g7,trivial⟩;refine ζ<|γ U<|dE U U<|ε ?_;by_cases ho:ml ts ts[i] i=0
  ·refine ay U (by simp[ho])<|ae ?_;have xg:=MX ho;have qz:=Fq hi xg;have Jv:=Jc.ext e3;have OJ:=nw.ext e3;have Gm:=lM.ext e3;have r3:=row e3;have b3:=e3.1;rw[Ξ (by simp[ho])]at aR;refine dh<|ao U<|aD U (r3) (Ju (by omega)) (da)<|cj U U<|w81 hC Jv (by have:=hb.len;omega) (φ.one Gm) OJ (hb.pX i hi) qz <| λh5 n5 e5=>rJ U<|cj U U<|qB hC<|aD U (row (e3.trans e5)) (Ju (by have:=e5.1;omega)) (da)<|cj U U<|w82 hC (φ.one Gm) (φ.one OJ) (hb.nm i hi) <| λh6 n6 e6=>aD U (row ((e3.trans e5).trans e6)) (Ju (by have:=e5.1;have:=e6.1;omega)) (da)<|cj U U<|w83 hC ((Gm.ext e5).ext e6) (φ.one OJ) (hb.vl i hi) (hb.vn i hi) <| λh7 n7 e7=>aD U (row (((e3.trans e5).trans e6).trans e7)) (Ju (by have:=e5.1;have:=e6.1;have:=e7.1;omega)) (da)<|cj U U<|w84 hC (φ.one Gm) (φ.one OJ) (hb.nm i hi) <| λh8 n8 e8=>rK U <| λh9 n9 hn9 a9 e9=>cj U U<|Gh hC.f30 (l:=[if (!!nN ts ts[i].op ts[i].kids.length ts[i].kids 0) then 11 else 0,ke ts[i],kf ts[i],nP ts[i]]) (φ.whole (len:=4) (by omega) a9 rfl) (by simp)<|ao U<|cG (⟨⟨Ω (by simp[Nat.testBit]),Ω (by simp[Nat.testBit]),dj (jK n8 (e3.trans e5 |>.trans e6 |>.trans e7 |>.trans e8).1 (e3.trans e5 |>.trans e6)) (jK n8 (e3.trans e5 |>.trans e6 |>.trans e7 |>.trans e8).1 (e3.trans e5 |>.trans e6 |>.trans e7)),dj (jK n8 (e3.trans e5 |>.trans e6 |>.trans e7 |>.trans e8).1 (e3.trans e5)) (jK n8 (e3.trans e5 |>.trans e6 |>.trans e7 |>.trans e8).1 (e3.trans e5 |>.trans e6)),dj (jK n8 (e3.trans e5 |>.trans e6 |>.trans e7 |>.trans e8).1 (e3.trans e5)) (jK n8 (e3.trans e5 |>.trans e6 |>.trans e7 |>.trans e8).1 (e3.trans e5)),dj (jK n8 (e3.trans e5 |>.trans e6 |>.trans e7 |>.trans e8).1 e3) (jK n8 (e3.trans e5 |>.trans e6 |>.trans e7 |>.trans e8).1 (e3.trans e5)),trivial⟩,⟨Ω (by simp[Nat.testBit]),Ω (by simp[Nat.testBit]),Ω (by simp[Nat.testBit]),dj (jK n8 (e3.trans e5 |>.trans e6 |>.trans e7 |>.trans e8).1 (e3.trans e5)) (jK n8 (e3.trans e5 |>.trans e6 |>.trans e7 |>.trans e8).1 (e3.trans e5 |>.trans e6)),dj (jK n8 (e3.trans e5 |>.trans e6 |>.trans e7 |>.trans e8).1 (e3.trans e5)) (jK n8 (e3.trans e5 |>.trans e6 |>.trans e7 |>.trans e8).1 (e3.trans e5)),dj (jK n8 (e3.trans e5 |>.trans e6 |>.trans e7 |>.trans e8).1 e3) (jK n8 (e3.trans e5 |>.trans e6 |>.trans e7 |>.trans e8).1 (e3.trans e5)),trivial⟩,⟨Ω (by simp[Nat.testBit]),Ω (by simp[Nat.testBit]),Ω (by simp[Nat.testBit]),Ω (by simp[Nat.testBit]),dj (jK n8 (e3.trans e5 |>.trans e6 |>.trans e7 |>.trans e8).1 (e3.trans e5)) (jK n8 (e3.trans e5 |>.trans e6 |>.trans e7 |>.trans e8).1 (e3.trans e5)),dj (jK n8 (e3.trans e5 |>.trans e6 |>.trans e7 |>.trans e8).1 e3) (jK n8 (e3.trans e5 |>.trans e6 |>.trans e7 |>.trans e8).1 (e3.trans e5)),trivial⟩,⟨Ω (by simp[Nat.testBit]),Ω (by simp[Nat.testBit]),Ω (by simp[Nat.testBit]),Ω (by simp[Nat.testBit]),Ω (by simp[Nat.testBit]),Ω (by simp[Nat.testBit]),trivial⟩,trivial⟩) ?_
   have e9':Ext h n h9 n9:=(((((e2.trans e3).trans e5).trans e6).trans e7).trans e8).trans e9;have agQ:gQ [if (!!nN ts ts[i].op ts[i].kids.length ts[i].kids 0) then 11 else 0,ke ts[i],kf ts[i],nP ts[i]]=AS ts ts[i]:=by rw[Bool.not_not];rfl
   rw[agQ];refine ζ<|γ U<|dE U U<|ε ?_;by_cases qg:AS ts ts[i]=0
   ·refine ay U (by simp[qg])<|ae (jj (by rw[aR,qg]) _ _ _ e9' ⟨rfl,rfl,rfl,trivial⟩)
   ·refine an U (by simp[qg]) ?_;refine ζ<|γ U<|γ U<|ε ?_;exact Θ (kL _ _ _ _ aR.symm qg e9' rfl)
  ·refine an U (by simp[ho]) ?_;rw[au ho]at aR;refine ζ<|γ U<|γ U<|ε ?_;exact Θ (kL _ _ _ _ aR.symm ho (e2.trans e3) U)
 have hO:ml ts ts[i] i=gQ [if rT ts[i].op then 11 else 0,if (!iV ts[i].op ts[i].kids.length) then 2 else 0,if (!fB (λj=>(fl ts ts.length).getD j 0) ts[i].kids.reverse i) then 9 else 0]:=by rw[hfo];unfold ml;cases iV ts[i].op ts[i].kids.length<;>cases ord ts i<;>rfl
 by_cases gg:ts[i].op<0
 ·have qU:rT ts[i].op=true:=by simp[rT,gg]
  rw[qU]at hO;refine dh<|bX U<|aD U (lo) (rfl) (fK _ _)<|KY U U<|ao U<|cW U (by simp[gg])<|cW U (by simp[gg])<|cW U (by simp[gg])<|yp U (by simp[gg]) U<|cj U U<|qB hC<|aD U (r0) (Ju (by omega)) (da)<|cj U U<|w79 hC (φ.one lM) nw <| λh3 n3 e3=>rJ U<|cj U U<|qB hC<|ao U<|ao U<|ao U<|cj U U<|YA hC (Jc.ext e3) (by have:=hb.len;omega) hi (hF2.ext e3) (mW ts _) hFg (hb.pX i hi)<|rJ U<|cj U U<|qB hC<|rK U <| λh4 n4 wj a4 e4=>cj U U<|Gh hC.f30 (l:=[11,if (!iV ts[i].op ts[i].kids.length) then 2 else 0,if (!fB (λj=>(fl ts ts.length).getD j 0) ts[i].kids.reverse i) then 9 else 0]) (φ.whole (len:=3) (by omega) a4 rfl) (by simp)<|ao U<|cG (⟨⟨Ω (by simp[Nat.testBit]),Ω (by simp[Nat.testBit]),Ω (by simp[Nat.testBit]),Ω (by simp[Nat.testBit]),Ω (by simp[Nat.testBit]),dj (jK n3 e3.1 (Ext.refl _ _)) (jK n3 e3.1 (Ext.refl _ _)),trivial⟩,⟨Ω (by simp[Nat.testBit]),Ω (by simp[Nat.testBit]),Ω (by simp[Nat.testBit]),Ω (by simp[Nat.testBit]),Ω (by simp[Nat.testBit]),Ω (by simp[Nat.testBit]),trivial⟩,trivial⟩) ?_
  exact mid _ h4 n4 (e3.trans e4) U U U U (by rw[hO];rfl)
 ·have qU:rT ts[i].op=decide (20<=ts[i].op):=by simp[rT,gg]
  rw[qU]at hO;refine dh<|bX U<|aD U (lo) (rfl) (fK _ _)<|KY U U<|ao U<|bV U (by simp[gg])<|bX U<|bV U (by simp[gg])<|aD U (lo) (rfl) (fK _ _)<|bV U (by simp[gg])<|Ey U U<|vK U (by simp[gg]) U<|cj U U<|qB hC<|aD U (r0) (Ju (by omega)) (da)<|cj U U<|w79 hC (φ.one lM) nw <| λh3 n3 e3=>rJ U<|cj U U<|qB hC<|ao U<|ao U<|ao U<|cj U U<|YA hC (Jc.ext e3) (by have:=hb.len;omega) hi (hF2.ext e3) (mW ts _) hFg (hb.pX i hi)<|rJ U<|cj U U<|qB hC<|rK U <| λh4 n4 wj a4 e4=>cj U U<|Gh hC.f30 (l:=[if decide (20<=ts[i].op) then 11 else 0,if (!iV ts[i].op ts[i].kids.length) then 2 else 0,if (!fB (λj=>(fl ts ts.length).getD j 0) ts[i].kids.reverse i) then 9 else 0]) (φ.whole (len:=3) (by omega) a4 rfl) (by simp)<|ao U<|cG (⟨⟨Ω (by simp[Nat.testBit]),Ω (by simp[Nat.testBit]),Ω (by simp[Nat.testBit]),Ω (by simp[Nat.testBit]),Ω (by simp[Nat.testBit]),dj (jK n3 e3.1 (Ext.refl _ _)) (jK n3 e3.1 (Ext.refl _ _)),trivial⟩,⟨Ω (by simp[Nat.testBit]),Ω (by simp[Nat.testBit]),Ω (by simp[Nat.testBit]),Ω (by simp[Nat.testBit]),Ω (by simp[Nat.testBit]),Ω (by simp[Nat.testBit]),trivial⟩,⟨Ω (by simp[Nat.testBit]),Ω (by simp[Nat.testBit]),Ω (by simp[Nat.testBit]),Ω (by simp[Nat.testBit]),Ω (by simp[Nat.testBit]),Ω (by simp[Nat.testBit]),trivial⟩,trivial⟩) ?_
  exact mid _ h4 n4 (e3.trans e4) U U U U (by rw[hO];rfl)
theorem agR(hC:Cd C){t vf:V}{ts:List Nd}{h0:Hf}{n0:K}(hb:Bd ts)(ht:dA h0 n0 t ts)(hF:aQ h0 n0 .i64 vf (fl ts ts.length)){Q1:Ex->Env->Hf->K->Prop}
 (kL:∀E' h' n' e,e=mn ts ts.length 0->e≠0->Ext h0 n0 h' n'->lk E' k2=some (.i .i64 e)->Q1 .ret E' h' n')
 (jj:mn ts ts.length 0=0->(∀j,j<ts.length->ord ts j=true)->∀E' h' n',Ext h0 n0 h' n'->dK [(k0,t),(k4,vf)] E'->Q1 .normal E' h' n'):
 ∀(m i:Nat) (h:Hf) (n:K),ts.length - i=m->i<=ts.length->mn ts m i=mn ts ts.length 0->(∀j,j<i->ord ts j=true)->Ext h0 n0 h n->WC C SR [(k0,t),(k4,vf),(k5,.i .i64 (i:Nat))] h n (blk 0 Q1):=by
 intro m
 induction m with
 | zero=>
  intro i h n hm hi hf ho he;have:i=ts.length:=by omega
  subst this;obtain⟨cs,hs⟩:=(ht.ext he).sl;refine aJ ?_;refine ξ<|ζ<|γ U<|γ U<|az U (hs)<|aO U U<|ε ?_;exact ay U (by simp)<|bM (jj (by rw[←hf];rfl) ho _ _ _ he ⟨rfl,rfl,trivial⟩)
 | succ m ih=>
  intro i h n hm hi hf ho he;have ω:i<ts.length:=by omega
  have hlen:=hb.len;obtain⟨cs,hs⟩:=(ht.ext he).sl;refine aJ ?_;refine ξ<|ζ<|γ U<|γ U<|az U (hs)<|aO U U<|ε ?_;refine an U (by simp<;>omega)<|ae<|ξ<|aC ?_;refine Γ (agK hC hb (ht.ext he) (hF.ext he) ω ?_ ?_) ⟨rfl,rfl,rfl,trivial⟩
  ·intro E' h' n' e h1 h2 h3 h4;refine kL E' h' n' e ?_ h2 (he.trans h3) h4;rw[←hf,mn,au (by rw[←h1];exact h2)];exact h1
  ·intro h1 E' h' n' h2 h3;refine dQ h3 ?_;refine aL<|γ U<|cU U U ⟨by omega,by omega⟩<|γ U<|ε ?_;refine Γ (ih (i+1) h' n' (by omega) (by omega) ?_ ?_ (he.trans h2)) ⟨rfl,rfl,rfl,trivial⟩
   ·rw[←hf,mn,Ξ (by simp[h1])]
   ·intro j hj;by_cases Ji:j<i
    ·exact ho j Ji
    ·have:j=i:=by omega
     subst this;rw[ID ω]at h1;by_cases h5:ml ts ts[j] j=0
     ·exact MX h5
     ·rw[au h5]at h1;exact absurd h1 h5
theorem w31(hC:Cd C){t:V}{ts:List Nd}(hb:Bd ts)(ht:dA h n t ts)(hQ:∀h' n',Ext h n h' n'->Q (.i .i64 (eH ts)) h' n'):τ C (.f 31 [] []) [t] h n Q:=by
 refine τ.go hC.f31 U ?_;obtain⟨cs,hs⟩:=ht.sl;have hlen:=hb.len;refine ζ<|γ U<|ε ?_;refine ξ<|ζ<|γ U<|az U (hs)<|bm U U<|ak U U<|qB hC<|γ U<|az U (hs)<|cS U U<|ak U U<|qB hC<|lu U <| λh1 n1 dS a1 e1=>ak U U<|Gh hC.f30 (l:=[if decide ((ts.length:Int)=0) then 10 else 0,if decide ((2000:Int)<ts.length) then 5 else 0]) (φ.whole (len:=2) (by omega) a1 rfl) (by simp)<|γ U<|ε ?_
 rw[yK];refine ζ<|γ U<|dE U U<|ε ?_;have ret:∀(e:Int) h' n',Ext h n h' n'->e=eH ts->WC C SM [(k3,.i .i64 e)] h' n' (sq C SS (fq [.t k2] Q)):=by intro e h' n' he hf;refine ζ<|γ U<|γ U<|ε (Θ ⟨_,rfl,by rw[hf];exact hQ _ _ he⟩)
 by_cases h1:ts.length=0
 ·refine an U (by simp[h1]) ?_;exact Γ (ret 10 _ _ e1 (by simp[eH,h1])) ⟨by show some (V.i _ _)=_;simp[h1],trivial⟩
 by_cases h2:2000<ts.length
 ·refine an U (by simp[h1]<;>omega) ?_;refine Γ (ret 5 _ _ e1 (by simp[eH,h1,h2])) ⟨?_,trivial⟩;show some (V.i _ _)=_;rw[Ξ (by simp[h1]),au (by simp<;>omega)]
 refine ay U ?_<|ae ?_
 ·rw[Ξ (by simp[h1]),Ξ (by simp<;>omega)];rfl
 refine ζ<|γ U<|ak U U<|w78 hC (ht.ext e1) (by omega) hb.pX <| λvf h7 n2 e2 hF=>γ U<|ε ?_;have iU:=e1.trans e2;refine ξ<|ζ<|γ U<|ε ?_;refine aC<|Γ (agR (h0:=h7) (n0:=n2) hC hb (ht.ext iU) hF ?_ ?_ ts.length 0 h7 n2 rfl (by omega) U (λj hj=>by omega) (Ext.refl _ _)) ⟨rfl,rfl,rfl,trivial⟩
 ·intro E' h' n' e g1 g2 g3 g4;refine⟨.i .i64 e,by show lW [.t k2] _ _=_;simp only[lW,rA,uD,g4],?_⟩;have:=hQ h' n' (iU.trans g3);rw[eH,Ξ h1,Ξ h2,au (by rw[←g1];exact g2),←g1]at this;exact this
 ·intro g1 ho E' h3 n3 g3 s3;refine dQ s3 ?_;have kD:=iU.trans g3;have Jv:=ht.ext kD;obtain⟨cs3,hs3⟩:=Jv.sl;have hF3:=hF.ext g3;have kW:ts.length - 1<ts.length:=by omega
  have oY:ts.length - 1<(fl ts ts.length).length:=by rw[mW];exact kW
  have gF:=hF3.get oY 1;have wJ:(fl ts ts.length)[ts.length - 1]=fs ts (ts.length - 1):=by rw[←jm oY];exact Is ts kW
  rw[wJ]at gF;obtain⟨vv,kv,hx⟩:=Jv.node kW;have Fs:=hx.op 1;rw[←Ff kW]at Fs;have Wc:∀(k:K),n3.num<=k.num->aX (hp h3 k none) false 1 (.p t.blk (t.off+(ts.length - 1)*5+0))=some (.i .i64 (tw ts (ts.length - 1))):=by intro k hk;obtain⟨vv,kv,hx⟩:=(Jv.ext ((Ext.refl h3 n3).aj (lj _ k none) hk)).node kW;have:=hx.op 1;rw[←Ff kW]at this;exact this
  have gd:∀{vd:V} {h':Hf} {n':K},eL h' n' .i64 vd (dl ts ts.length)->aX h' false 1 (.p vd.blk (vd.off+(ts.length - 1)*1))=some (.i .i64 (Fg ts)):=by
   intro vd h' n' hd;have hl3:ts.length - 1<(dl ts ts.length).length:=by rw[rO];exact kW
   have:=hd.get hl3 1;rw[←Iw hl3]at this;exact this
  have MV:ts.length - 1<(dl ts ts.length).length:=by rw[rO];exact kW
  refine ζ<|γ U<|az U (hs3)<|mO U U (show(ts.length:Int) - 1=((ts.length - 1:Nat):Int) by omega) ⟨by omega,by omega⟩<|γ U<|ε ?_;refine dh<|ao U<|ao U<|cX U U (hF3) (oY)<|aD U (gF) U (by simp[cT,hJ,dD,jG])<|Ew U U<|cj U U<|qB hC<|ao U<|ao U<|cX U U (hs3) (kW)<|bX U<|aD U (Fs) U (by simp[cT,hJ,dD,jG])<|Aj U U<|cj U U<|qB hC<|ao U<|cj U U<|w85 hC Jv (by omega) hb.pX ho <| λvd h4 n4 e4 hd=>ao U<|cX U U (hd) (MV)<|aD U (gd hd) U (by simp[cT,hJ,dD,jG])<|wQ U U<|cj U U<|qB hC<|rK U <| λh5 n5 xz a5 e5=>cj U U<|Gh hC.f30 (l:=[if (!decide (((fs ts (ts.length - 1):Nat):Int)=0)) then 9 else 0,if decide (tw ts (ts.length - 1)=19) then 11 else 0,if decide (60<Fg ts) then 24 else 0]) (φ.whole (len:=3) (by omega) a5 rfl) (by simp)<|ao U<|cG (⟨⟨Ω (by simp[Nat.testBit]),Ω (by simp[Nat.testBit]),Ω (by simp[Nat.testBit]),Ω (by simp[Nat.testBit]),Ω (by simp[Nat.testBit]),trivial⟩,⟨Ω (by simp[Nat.testBit]),Ω (by simp[Nat.testBit]),Ω (by simp[Nat.testBit]),Ω (by simp[Nat.testBit]),dj (Wc n4 e4.1) (Wc n4 e4.1),trivial⟩,⟨Ω (by simp[Nat.testBit]),Ω (by simp[Nat.testBit]),Ω (by simp[Nat.testBit]),Ω (by simp[Nat.testBit]),Ω (by simp[Nat.testBit]),trivial⟩,trivial⟩) ?_
  have hl:AT ts=gQ [if (!decide (((fs ts (ts.length - 1):Nat):Int)=0)) then 9 else 0,if decide (tw ts (ts.length - 1)=19) then 11 else 0,if decide (60<Fg ts) then 24 else 0]:=by unfold AT;simp only[bA];congr 1;simp
  rw[←hl];refine Θ ⟨_,rfl,?_⟩;have:=hQ h5 n5 ((kD.trans e4).trans e5);rw[eH,Ξ h1,Ξ h2,Ξ (by simp[g1])]at this;exact this
end
section
variable {C:Nat->Option bN}{h:Hf}{n:K}{Q:V->Hf->K->Prop}
theorem MY(hC:Cd C){t:V}{ts:List Nd}{m:List (V×V)}(ht:mU h n t ts m)(hlen:ts.length<1000000)(h0:0<ts.length)
 (hQ:∀h' n' vv kv,Ext h n h' n'->m[ts.length - 1]?=some (vv,kv)->ep h n vv (ts[ts.length - 1]'(by omega)).vars->eL h n .i64 kv (ts[ts.length - 1]'(by omega)).kids->Q (.a (cR (ts[ts.length - 1]'(by omega)) vv kv)) h' n'):τ C (.f 86 [] []) [t] h n Q:=by
 refine τ.go hC.f86 U ?_;have kW:ts.length - 1<ts.length:=by omega
 have hm:=ht.choose;obtain⟨_,hs,hr⟩:=ht;have mJ:=Er hm kW;have hb:=(hr _ kW).1;have hk:=(hr _ kW).2;refine ζ<|du <| λh1 n1 dS a1 e1=>ε ?_;have kA:=hs.ext e1;have hg:=kA.nF (i:=(ts.length - 1)*5) (sz:=5) (by omega) (by omega);rw[mJ]at hg;have gK:=kc ts[ts.length - 1] (φ.one hb) (φ.one hk);refine ζ<|γ U<|γ U<|az U (kA)<|mO U U (show(ts.length:Int) - 1=((ts.length - 1:Nat):Int) by omega) ⟨by omega,by omega⟩<|bj U U (kA) (kW)<|ν U (hg)<|bL U U (a1) (dW rfl rfl gK) <| λh2 a2 b2=>ε ?_;refine Θ ⟨_,iO rfl (bQ a2 (rB rfl)),?_⟩;exact hQ h2 n1 _ _ (e1.aj b2 (χ _)) (by rw[fO]) hb hk
theorem Wd{a b c d e v:V}(hc:v.cells=[v])(ho:v.one=true):nh [a,b,c,d,e] 0 (0+3) 1 v=some [a,b,c,v,e]:=by simp only[nh,hc,bE,ho,fH,p9,eK,over];rfl
theorem We{a b c d e v:V}(hc:v.cells=[v])(ho:v.one=true):nh [a,b,c,d,e] 0 (0+4) 1 v=some [a,b,c,d,v]:=by simp only[nh,hc,bE,ho,fH,p9,eK,over];rfl
theorem Wf{cs:List V}(hl:cs.length=5)(ho:bE cs=true){E:Env}{k:K}(h1:lk E k=some (.a cs)):
 jh E [.i .i64 0,.s 0 0,.s 0 0,.ns,.ns] [(0,5,.t k)]=some cs:=by
 match cs,hl with
 | [a,b,c,d,e],_=>
  simp only[jh,ge,h1,V.cells,fH,p9,ho,eK,over];rfl
def kM(P:Nd->V×V->Prop):List Nd->List (V×V)->Prop
 | [],[]=>True
 | x::ts,p::m=>P x p/\kM P ts m
 | _,_=>False
theorem kM.len{P:Nd->V×V->Prop}:∀{ts:List Nd} {m:List (V×V)},kM P ts m->m.length=ts.length:=by
 intro ts
 induction ts with
 | nil=>intro m h;cases m with | nil=>rfl | cons=>exact h.elim
 | cons x ts ih=>intro m h;cases m with | nil=>exact h.elim | cons p m=>simp[ih h.2]
theorem kM.mono{P P':Nd->V×V->Prop}(f:∀x p,P x p->P' x p):∀{ts:List Nd} {m:List (V×V)},kM P ts m->kM P' ts m:=by
 intro ts
 induction ts with
 | nil=>intro m h;cases m with | nil=>trivial | cons=>exact h.elim
 | cons x ts ih=>intro m h;cases m with | nil=>exact h.elim | cons p m=>exact⟨f _ _ h.1,ih h.2⟩
theorem kM.app{P:Nd->V×V->Prop}:∀{ts OK:List Nd} {m m':List (V×V)},kM P ts m->kM P OK m'->kM P (ts++OK) (m++m'):=by
 intro ts
 induction ts with
 | nil=>intro OK m m' h h';cases m with | nil=>exact h' | cons=>exact h.elim
 | cons x ts ih=>intro OK m m' h h';cases m with | nil=>exact h.elim | cons p m=>exact⟨h.1,ih h.2 h'⟩
theorem kM.get{P:Nd->V×V->Prop}:∀{ts:List Nd} {m:List (V×V)},kM P ts m->∀i (hi:i<ts.length) (hj:i<m.length),P ts[i] m[i]:=by
 intro ts
 induction ts with
 | nil=>intro m h i hi;simp at hi
 | cons x ts ih=>
  intro m h i hi hj;cases m with
  | nil=>exact h.elim
  | cons p m=>
   cases i with
   | zero=>exact h.1
   | succ i=>exact ih h.2 i (by simpa using hi) (by simpa using hj)
def mB(a b:V):Prop:=a=.ns\/b=.ns\/a.blk.num≠b.blk.num
theorem mB.of{a b:V}{n:K}(h1:a=.ns\/a.blk.num<n.num)(h2:b=.ns\/n.num<=b.blk.num):mB a b:=by
 rcases h1 with h1 | h1
 ·exact Or.inl h1
 ·rcases h2 with h2 | h2
  ·exact Or.inr (Or.inl h2)
  ·exact Or.inr (Or.inr (by omega))
theorem mB.symm{a b:V}(h:mB a b):mB b a:=by
 rcases h with h | h | h
 ·exact Or.inr (Or.inl h)
 ·exact Or.inl h
 ·exact Or.inr (Or.inr (Ne.symm h))
theorem φ.AU{h h':Hf}{n n':K}{z:Nat}{v:V}{len:Nat}{cs:List V}(a:φ h n z v len cs)(e:v=.ns\/h' v.blk=h v.blk)(hn:n.num<=n'.num):φ h' n' z v len cs:=by
 obtain⟨h1,h2⟩:=a;refine⟨h1,h2.imp id λ⟨⟨b,o,c,h3,h4⟩,row,h5,h6⟩=>⟨⟨b,o,c,h3,fk h4 hn⟩,row,?_,h6⟩⟩;rcases e with e | e
 ·subst e;cases h3 with | inl e=>cases e.1 | inr e=>cases e
 ·unfold jg at h5 ⊢;rw[e];exact h5
structure RO(h:Hf)(lo n:K)(v:V)(x:Nd)(p:V×V):Prop where
 b:ep h n p.1 x.vars
 k:eL h n .i64 p.2 x.kids
 ko:p.2=.ns\/(p.2=.su p.2.blk 0 x.kids.length 1/\h p.2.blk=some (.c (ij .i64 x.kids) 3 0))
 kr:p.2=.ns\/lo.num<=p.2.blk.num
 vr:p.1=.ns\/lo.num<=p.1.blk.num
 vk:mB p.1 p.2
 vt:mB p.1 v
 kt:mB p.2 v
structure TO(h:Hf)(lo n:K)(v:V)(ts:List Nd)(m:List (V×V)):Prop where
 sl:φ h n 5 v ts.length (eZ ts m)
 rows:kM (RO h lo n v) ts m
 pw:m.Pairwise λp q=>mB p.2 q.2/\mB p.1 q.2/\mB p.2 q.1
 ge:v=.ns\/lo.num<=v.blk.num
theorem TO.tm{h:Hf}{lo n:K}{v:V}{ts:List Nd}{m:List (V×V)}(a:TO h lo n v ts m):mU h n v ts m:=
 ⟨a.rows.len,a.sl,λi hi=>⟨(a.rows.get i hi (by rw[a.rows.len];exact hi)).b,(a.rows.get i hi (by rw[a.rows.len];exact hi)).k⟩⟩
theorem RO.step{h h':Hf}{lo n n':K}{v v':V}{x:Nd}{p:V×V}(a:RO h lo n v x p)(hs:∀b:K,b.num<n.num->(v=.ns\/b.num≠v.blk.num)->h' b=h b)(hn:n.num<=n'.num)(nW:n.num<=v'.blk.num):RO h' lo n' v' x p:=by
 have lt1:=φ.vJ a.b;have lt2:=φ.vJ a.k;have e1:p.1=.ns\/h' p.1.blk=h p.1.blk:=by
  rcases lt1 with l | l
  ·exact Or.inl l
  ·rcases a.vt with g | g | g
   ·exact Or.inl g
   ·exact Or.inr (hs _ l (Or.inl g))
   ·exact Or.inr (hs _ l (Or.inr g))
 have e2:p.2=.ns\/h' p.2.blk=h p.2.blk:=by
  rcases lt2 with l | l
  ·exact Or.inl l
  ·rcases a.kt with g | g | g
   ·exact Or.inl g
   ·exact Or.inr (hs _ l (Or.inl g))
   ·exact Or.inr (hs _ l (Or.inr g))
 refine⟨φ.AU a.b e1 hn,φ.AU a.k e2 hn,?_,a.kr,a.vr,a.vk,mB.of lt1 (Or.inr nW),mB.of lt2 (Or.inr nW)⟩;rcases a.ko with g | g
 ·exact Or.inl g
 ·rcases e2 with e | e
  ·exact Or.inl e
  ·exact Or.inr ⟨g.1,by rw[e];exact g.2⟩
theorem ig.su{h:Hf}{e z len:Nat}{v:V}{cs:List V}(a:ig h e z v len cs):v=.ns\/(v=.su v.blk 0 len z/\h v.blk=some (.c cs e 0)):=by
 rcases a.2 with h | ⟨_,b,h1,h2⟩
 ·exact Or.inl h.1
 ·subst h1;exact Or.inr ⟨rfl,h2⟩
section
variable {h0:Hf}{n0:K}{t:V}{ts:List Nd}
theorem agY(hC:Cd C)(ht:dA h0 n0 t ts)(hb:Bd ts){Q1:Ex->Env->Hf->K->Prop}
 (hQ:∀vo m h n E',Ext h0 n0 h n->TO h n0 n vo ts m->dK [(k3,vo)] E'->Q1 .normal E' h n):
 ∀(r i:Nat) (vo:V) (m:List (V×V)) (h:Hf) (n:K),ts.length - i=r->i<=ts.length->TO h n0 n vo (ts.take i) m->Gr h0 n0 h n 69 5 vo i (eZ (ts.take i) m)->WC C Ub [(k0,t),(k3,vo),(k4,.i .i64 (i:Nat))] h n (blk 0 Q1):=by
 have hlen:=hb.len;intro r
 induction r with
 | zero=>
  intro i vo m h n hr hi iW hg;have:i=ts.length:=by omega
  subst this;obtain⟨cs,hs⟩:=(ht.ext hg.ext).sl;rw[gM]at iW;refine aJ ?_;refine ξ<|ζ<|γ U<|γ U<|az U (hs)<|aO U U<|ε ?_;exact ay U (by simp)<|bM (hQ vo m h n _ hg.ext iW ⟨rfl,trivial⟩)
 | succ r ih=>
  intro i vo m h n hr hi iW hg;have ω:i<ts.length:=by omega
  have wg:=ht.ext hg.ext;obtain⟨cs,hs⟩:=wg.sl;obtain⟨vv,kv,hx⟩:=wg.node ω;have gK:=kc ts[i] (φ.one hx.vars) (φ.one hx.kids);have fm:=hb.pX i ω;have sd:=hb.vl i ω;refine aJ ?_;refine ξ<|ζ<|γ U<|γ U<|az U (hs)<|aO U U<|ε ?_;refine an U (by simp<;>omega)<|ae ?_;refine ξ<|aC<|ζ<|γ U<|γ U<|bj U U (hs) (ω)<|ν U (hx.all)<|du <| λh1 n1 dS a1 e1=>bL U U (a1) (dW rfl rfl gK) <| λh2 a2 b2=>ε ?_;have x2:Ext h n h2 n1:=e1.aj b2 (χ _);have lM:=hx.vars.ext x2;refine ζ<|ρ U<|ν U (dL a2 rfl _)<|HO U U (lM) (by omega) (by omega) (by omega) <| λv3 h3 n3 o3 x3 p3=>ρ U<|bL U U ((x3.2 _ (by omega)).trans a2) (Wd o3.cells o3.one) <| λh4 a4 b4=>ε ?_;have ny:de n h3 h4:=b4;have x4:Ext h n h4 n3:=(x2.trans x3).aj ny (χ _);have hk4:=hx.kids.ext x4;have og:=x3.1;refine ζ<|ρ U<|ν U (dL a4 rfl _)<|HO U U (hk4) (by omega) (by omega) (by omega) <| λv5 h5 n5 o5 x5 p5=>ρ U<|bL U U ((x5.2 _ (by omega)).trans a4) (We o5.cells o5.one) <| λh6 a6 b6=>ε ?_;have qY:de n h5 h6:=b6;have x6:Ext h n h6 n5:=(x4.trans x5).aj qY (χ _);have xz:=x5.1;have Gs:h6 n=some (.c (cR ts[i] v3 v5) 69 0):=a6;have YC:ig h6 40 2 v3 ts[i].vars.length (lh ts[i].vars):=(((o3.ext (p3.imp id λh=>ny _ (by omega))).ext (p3.imp id λh=>x5.2 _ (by omega))).ext (p3.imp id λh=>qY _ (by omega)));have MZ:ig h6 3 1 v5 ts[i].kids.length (ij .i64 ts[i].kids):=o5.ext (p5.imp id λh=>qY _ (by omega));have Ft:=kc ts[i] o3.one o5.one;have g6:=hg.on x6;refine aL<|γ U<|ν U (bQ Gs (rB rfl))<|lu (Wf rfl Ft rfl) <| λh7 n7 xA a7 x7=>yr U ((g6.on x7).own) U (φ.whole (len:=1) (by omega) a7 rfl) (by omega) (by omega) (by omega) (by omega) (Ft) ((g6.on x7).lt) <| λv8 h8 n8 o8 q8 Gp s8=>γ U<|ε ?_;have g8:=(g6.on x7).app o8 q8 Gp s8;have YD:Ext h n h7 n7:=x6.trans x7;have Ks:m.length=i:=by rw[iW.rows.len];simp;omega
  have M0:ts.take (i+1)=ts.take i++[ts[i]]:=pg ω;have YE:eZ (ts.take i) m++cR ts[i] v3 v5=eZ (ts.take (i+1)) (m++[(v3,v5)]):=by rw[M0,Hy (by rw[Ks];simp;omega)];rfl
  rw[YE]at g8;have xA:=x7.1;have agZ:=hg.ext.1;have ag0:n.num<n1.num:=by omega
  have Gb:∀b:K,b.num<n.num->(vo=.ns\/b.num≠vo.blk.num)->h8 b=h b:=λb hb hv=>by rw[s8 b (by omega) hv,YD.2 b hb]
  have l3:v3=.ns\/v3.blk.num<n3.num:=p3.imp id And.right;have l5:v5=.ns\/v5.blk.num<n5.num:=p5.imp id And.right;have M3:v3=.ns\/(vo=.ns\/v3.blk.num≠vo.blk.num):=p3.imp id λh=>hg.lt.imp id λg=>by omega
  have M4:v5=.ns\/(vo=.ns\/v5.blk.num≠vo.blk.num):=p5.imp id λh=>hg.lt.imp id λg=>by omega
  have f3:v3=.ns\/h8 v3.blk=h6 v3.blk:=by
   rcases l3 with l | l
   ·exact Or.inl l
   ·rcases M3 with g | g
    ·exact Or.inl g
    ·exact Or.inr (by rw[s8 _ (by omega) g,x7.2 _ (by omega)])
  have f5:v5=.ns\/h8 v5.blk=h6 v5.blk:=by
   rcases l5 with l | l
   ·exact Or.inl l
   ·rcases M4 with g | g
    ·exact Or.inl g
    ·exact Or.inr (by rw[s8 _ (by omega) g,x7.2 _ (by omega)])
  have YF:v5=.ns\/n0.num<=v5.blk.num:=p5.imp id λh=>by omega
  have YG:v3=.ns\/n0.num<=v3.blk.num:=p3.imp id λh=>by omega
  have k8:v8=.ns\/n5.num<=v8.blk.num:=Or.inr (by rw[q8];omega);have M5:v3=.ns\/v3.blk.num<n5.num:=l3.imp id λh=>by omega
  have g5:v5=.ns\/n.num<=v5.blk.num:=p5.imp id λh=>by omega
  have g3:v3=.ns\/n.num<=v3.blk.num:=p3.imp id λh=>by omega
  have ro:RO h8 n0 n8 v8 ts[i] (v3,v5):=by
   refine⟨φ.AU (YC.sl (n:=n5) M5) f3 (by omega),φ.AU (MZ.sl (n:=n5) l5) f5 (by omega),?_,YF,YG,mB.of l3 (p5.imp id And.left),mB.of M5 k8,mB.of l5 k8⟩;rcases MZ.su with g | g
   ·exact Or.inl g
   ·rcases f5 with f | f
    ·exact Or.inl f
    ·exact Or.inr ⟨g.1,by rw[f];exact g.2⟩
  refine aL<|γ U<|cU U U ⟨by omega,by omega⟩<|γ U<|ε ?_;refine Γ (ih (i+1) v8 (m++[(v3,v5)]) h8 n8 (by omega) (by omega) ⟨?_,?_,?_,Or.inr (by rw[q8];omega)⟩ g8) ⟨rfl,rfl,rfl,trivial⟩
  ·have:=g8.sl;have el:(ts.take (i+1)).length=i+1:=by simp;omega
   rw[el];exact this
  ·rw[M0];exact kM.app (kM.mono (λx p a=>a.step Gb (by omega) (by rw[q8];omega)) iW.rows) ⟨ro,trivial⟩
  ·rw[List.pairwise_append];refine⟨iW.pw,List.pairwise_singleton _ _,?_⟩;intro p hp q hq;rw[zB]at hq;subst hq;obtain⟨j,hj,rfl⟩:=uu hp;have hr:=iW.rows.get j (by rw[←iW.rows.len];exact hj) hj;have b1:=φ.vJ hr.b;have b2:=φ.vJ hr.k;exact⟨mB.of b2 g5,mB.of b1 g5,mB.of b2 g3⟩
end
theorem ag1(hC:Cd C){t:V}{ts:List Nd}(ht:dA h n t ts)(hb:Bd ts)(hQ:∀vo m h' n',Ext h n h' n'->TO h' n n' vo ts m->Q vo h' n'):τ C (.f 228 [] []) [t] h n Q:=by refine τ.go hC.f228 U ?_;refine ζ<|γ U<|ε ?_;refine ζ<|γ U<|ε ?_;refine ξ<|ζ<|γ U<|ε ?_;refine aC<|Γ (agY hC ht hb ?_ _ 0 .ns [] h n rfl (by omega) ⟨by simp;exact φ.ns h n 5,trivial,List.Pairwise.nil,Or.inl U⟩ (by simpa[eZ]using Gr.ns (Ext.refl h n))) ⟨rfl,rfl,rfl,trivial⟩;intro vo m h1 n1 E1 e1 M6 s1;refine dQ s1 ?_;refine ζ<|γ U<|γ U<|ε (Θ ⟨_,rfl,hQ vo m h1 n1 e1 M6⟩)
end
section
variable {C:Nat->Option bN}{h:Hf}{n:K}{Q:V->Hf->K->Prop}
theorem ag2:∀(l:List Nd) (m:List (V×V)),m.length=l.length->∀i,(eZ l m).drop (i*5)=eZ (l.drop i) (m.drop i):=by
 intro l
 induction l with
 | nil=>intro m hm i;cases m with | nil=>simp[eZ] | cons=>simp at hm
 | cons x l ih=>
  intro m hm i;cases m with
  | nil=>simp at hm
  | cons p m=>
   cases i with
   | zero=>simp
   | succ i=>
    rw[DB,DB,←ih m (by simpa using hm) i];rw[xS,rm,←List.drop_drop];rfl
theorem M7:∀(l:List Nd) (m:List (V×V)),m.length=l.length->∀i,(eZ l m).take (i*5)=eZ (l.take i) (m.take i):=by
 intro l
 induction l with
 | nil=>intro m hm i;cases m with | nil=>simp[eZ] | cons=>simp at hm
 | cons x l ih=>
  intro m hm i;cases m with
  | nil=>simp at hm
  | cons p m=>
   cases i with
   | zero=>simp[eZ]
   | succ i=>
    rw[sD,sD];show(cR x p.1 p.2++eZ l m).take ((i+1)*5)=cR x p.1 p.2++eZ (l.take i) (m.take i);have e1:(cR x p.1 p.2).length=5:=rfl;rw[←ih m (by simpa using hm) i,xS,rm,List.take_append,e1,show 5+i*5 - 5=i*5 by omega,pZ (by rw[e1];omega)]
theorem mU.sub{v v':V}{ts:List Nd}{m:List (V×V)}(a:mU h n v ts m){i j:Nat}(tM:i+j<=ts.length)(s:φ h n 5 v' j (((eZ ts m).drop (i*5)).take (j*5))):mU h n v' ((ts.drop i).take j) ((m.drop i).take j):=by
 obtain⟨hm,h1,h2⟩:=a;have hl:((ts.drop i).take j).length=j:=by simp;omega
 rw[ag2 _ _ hm,M7 _ _ (by simp[hm])]at s;refine⟨by simp[hm],by rw[hl];exact s,λk hk=>?_⟩;rw[hl]at hk;have e1:((ts.drop i).take j)[k]'(by rw[hl];exact hk)=ts[i+k]'(by omega):=by simp
 have e2:((m.drop i).take j)[k]'(by simp[hm];omega)=m[i+k]'(by omega):=by simp
 simp only[e1,e2];exact h2 (i+k) (by omega)
theorem dA.sub{v v':V}{ts:List Nd}{cs:List V}(a:dA h n v ts){i j:Nat}(tM:i+j<=ts.length)(hc:φ h n 5 v ts.length cs)(s:φ h n 5 v' j ((cs.drop (i*5)).take (j*5))):dA h n v' ((ts.drop i).take j):=by
 obtain⟨m,hm⟩:=a;have:cs=eZ ts m:=by
  obtain⟨_,h1,_⟩:=hm;obtain⟨g1,g2⟩:=hc;obtain⟨k1,k2⟩:=h1;rcases g2 with g | ⟨_,row,r1,r2⟩
  ·have e1:cs=[]:=by rw[g.2]at g1;simpa using g1
   have e2:eZ ts m=[]:=by rw[g.2]at k1;simpa using k1
   rw[e1,e2]
  ·rcases k2 with k | ⟨_,aup,r3,r4⟩
   ·have e1:cs=[]:=by rw[k.2]at g1;simpa using g1
    have e2:eZ ts m=[]:=by rw[k.2]at k1;simpa using k1
    rw[e1,e2]
   ·rw[r1]at r3;cases r3;rw[r2]at r4;cases r4;rfl
 subst this;exact⟨_,mU.sub hm tM s⟩
def sC(f:Nat)(x:Nd):Nd:=⟨x.op,x.sort,x.name,x.vars,x.kids.map λk=>k - f⟩
def part(ts:List Nd)(i:Nat):List Nd:=((ts.drop (fs ts i)).take (i+1 - fs ts i)).map (sC (fs ts i))
theorem oR{ts:List Nd}{i:Nat}(hi:i<ts.length):(part ts i).length=i+1 - fs ts i:=by have:=kK ts i;simp[part];omega
theorem kM.of{P:Nd->V×V->Prop}:∀{ts:List Nd} {m:List (V×V)},m.length=ts.length->(∀i (hi:i<ts.length) (hj:i<m.length),P ts[i] m[i])->kM P ts m:=by
 intro ts
 induction ts with
 | nil=>intro m hm _;cases m with | nil=>trivial | cons=>simp at hm
 | cons x ts ih=>
  intro m hm h;cases m with
  | nil=>simp at hm
  | cons p m=>
   refine⟨h 0 (by simp) (by simp),ih (by simpa using hm) λi hi hj=>?_⟩;have:=h (i+1) (by simpa using hi) (by simpa using hj);simpa using this
theorem ag3{x:Nd}:∀(l:List Nd) (m:List (V×V)) (i:Nat) (hi:i<l.length),x.op=l[i].op->x.sort=l[i].sort->x.name=l[i].name->eZ (l.set i x) m=eZ l m:=by
 intro l
 induction l with
 | nil=>intro m i hi;simp at hi
 | cons y l ih=>
  intro m i hi h1 h2 h3;cases m with
  | nil=>cases i<;>rfl
  | cons p m=>
   cases i with
   | zero=>
    simp only[uq]at h1 h2 h3;simp only[List.set_cons_zero];show cR x p.1 p.2++eZ l m=cR y p.1 p.2++eZ l m;simp only[cR,h1,h2,h3]
   | succ i=>
    simp only[Bv];show cR y p.1 p.2++eZ (l.set i x) m=cR y p.1 p.2++eZ l m;rw[ih m i (by simpa using hi) (by simpa using h1) (by simpa using h2) (by simpa using h3)]
theorem RO.aj{h h':Hf}{lo n:K}{v:V}{x:Nd}{p:V×V}(a:RO h lo n v x p){b:K}(e:de b h h')(h1:p.1=.ns\/p.1.blk.num≠b.num)(h2:p.2=.ns\/p.2.blk.num≠b.num):RO h' lo n v x p:=by
 refine⟨φ.aj a.b e h1,φ.aj a.k e h2,?_,a.kr,a.vr,a.vk,a.vt,a.kt⟩;rcases a.ko with g | g
 ·exact Or.inl g
 ·rcases h2 with k | k
  ·exact Or.inl k
  ·exact Or.inr ⟨g.1,by rw[e _ k];exact g.2⟩
def wk(x:Nd)(l:List Int):Nd:=⟨x.op,x.sort,x.name,x.vars,l⟩
theorem TO.ag6{h h':Hf}{lo n:K}{v:V}{ts:List Nd}{m:List (V×V)}(a:TO h lo n v ts m){i k:Nat}{y:Int}(hi:i<ts.length)(hj:i<m.length)(hk:k<ts[i].kids.length)
 (e:de m[i].2.blk h h')(hs:h' m[i].2.blk=some (.c (ij .i64 (ts[i].kids.set k y)) 3 0)):TO h' lo n v (ts.set i (wk ts[i] (ts[i].kids.set k y))) m:=by
 have hr:=a.rows.get i hi hj;have aR:m[i].2≠.ns:=by
  intro h;have:=hr.k;rw[h]at this;rcases this.2 with g | ⟨⟨b,o,c,g,_⟩,_⟩
  ·have:=g.2;omega
  ·rcases g with g | g
   ·cases g.1
   ·cases g
 have bl:m[i].2.blk.num<n.num:=by
  rcases φ.vJ hr.k with g | g
  ·exact absurd g aR
  ·exact g
 have nv:v=.ns\/v.blk.num≠m[i].2.blk.num:=by
  rcases hr.kt with g | g | g
  ·exact absurd g aR
  ·exact Or.inl g
  ·exact Or.inr (Ne.symm g)
 refine⟨?_,?_,a.pw,a.ge⟩
 ·rw[mD,ag3 (x:=wk ts[i] (ts[i].kids.set k y)) _ _ _ hi rfl rfl rfl];exact φ.aj a.sl e nv
 ·refine kM.of (by rw[mD];exact a.rows.len) λj Oh y9=>?_;rw[mD]at Oh;by_cases tM:i=j
  ·subst tM;simp only[Dy];have mK:m[i].2=.su m[i].2.blk 0 ts[i].kids.length 1:=by
    rcases hr.ko with g | g
    ·exact absurd g aR
    ·exact g.1
   refine⟨φ.aj hr.b e ?_,?_,Or.inr ⟨by show _=V.su _ 0 (ts[i].kids.set k y).length 1;rw[mD];exact mK,hs⟩,hr.kr,hr.vr,hr.vk,hr.vt,hr.kt⟩
   ·rcases hr.vk with g | g | g
    ·exact Or.inl g
    ·exact absurd g aR
    ·exact Or.inr g
   ·unfold eL;refine⟨by simp[Ep,wk],Or.inr ⟨⟨m[i].2.blk,0,0,Or.inr (by show _=V.su _ 0 (ts[i].kids.set k y).length 1;rw[mD];exact mK),bl⟩,ij .i64 (ts[i].kids.set k y),by simp[jg,hs,O.row],?_⟩⟩;rw[mK];exact rB (by simp[Ep,wk])
  ·rw[Bs tM];have we:=a.rows.get j Oh y9;have pw:=List.pairwise_iff_getElem.1 a.pw;have n2:mB m[j].2 m[i].2/\mB m[j].1 m[i].2:=by
    rcases jC i j with g | g
    ·have:=pw i j hj y9 g;exact⟨this.1.symm,this.2.2.symm⟩
    ·have:=pw j i y9 hj (by omega);exact⟨this.1,this.2.1⟩
   refine we.aj e ?_ ?_
   ·rcases n2.2 with g | g | g
    ·exact Or.inl g
    ·exact absurd g aR
    ·exact Or.inr g
   ·rcases n2.1 with g | g | g
    ·exact Or.inl g
    ·exact absurd g aR
    ·exact Or.inr g
end
section
variable {C:Nat->Option bN}{h:Hf}{n:K}{Q:V->Hf->K->Prop}
def shl(f:Nat)(k:Nat)(l:List Int):List Int:=(l.take k).map (λ(x:Int)=>x - (f:Int))++l.drop k
theorem M8(f k:Nat)(l:List Int):(shl f k l).length=l.length:=by simp[shl];omega
theorem ag7{f k:Nat}{l:List Int}(hk:k<l.length):(shl f k l)[k]'(by rw[M8];exact hk)=l[k]:=by unfold shl;rw[List.getElem_append_right (by simp;omega)];simp[xR (fY hk)]
theorem ag8{f k:Nat}{l:List Int}(hk:k<l.length):(shl f k l).set k (l[k] - f)=shl f (k+1) l:=by unfold shl;rw[List.set_append_right _ _ (by simp;omega),pg hk,List.map_append,Bz];congr 1;rw[wy,ri,xR (fY hk),qc,fC hk,List.set_cons_zero];rfl
theorem Wg(f:Nat)(l:List Int):shl f 0 l=l:=by simp[shl]
theorem aha(f:Nat)(l:List Int):shl f l.length l=l.map (λ(x:Int)=>x - (f:Int)):=by simp[shl]
structure wm(f:Nat)(t0 us:List Nd)(i k:Nat):Prop where
 len:us.length=t0.length
 lo:∀j (h1:j<us.length) (h2:j<t0.length),j<i->us[j]=sC f t0[j]
 at_:∀(h1:i<us.length) (h2:i<t0.length),us[i]=wk t0[i] (shl f k t0[i].kids)
 hi:∀j (h1:j<us.length) (h2:j<t0.length),i<j->us[j]=t0[j]
theorem wm.start(f:Nat)(t0:List Nd):wm f t0 t0 0 0:=⟨rfl,λj _ _ h=>by omega,λ_ _=>by rw[Wg];rfl,λ_ _ _ _=>rfl⟩
theorem wm.set{f:Nat}{t0 us:List Nd}{i k:Nat}(c:wm f t0 us i k)(h1:i<us.length)(h2:i<t0.length)(hk:k<t0[i].kids.length):wm f t0 (us.set i (wk us[i] (us[i].kids.set k (t0[i].kids[k] - f)))) i (k+1):=by
 refine⟨by rw[mD];exact c.len,λj g1 g2 h=>?_,λg1 g2=>?_,λj g1 g2 h=>?_⟩
 ·rw[mD]at g1;rw[Bs (by omega)];exact c.lo j g1 g2 h
 ·rw[Dy,c.at_ h1 h2];show wk _ ((shl f k t0[i].kids).set k _)=_;rw[ag8 hk];rfl
 ·rw[mD]at g1;rw[Bs (by omega)];exact c.hi j g1 g2 h
theorem wm.next{f:Nat}{t0 us:List Nd}{i:Nat}(c:wm f t0 us i (match t0[i]? with | some x=>x.kids.length | none=>0)):wm f t0 us (i+1) 0:=by
 refine⟨c.len,λj g1 g2 h=>?_,λg1 g2=>?_,λj g1 g2 h=>c.hi j g1 g2 (by omega)⟩
 ·by_cases hj:j<i
  ·exact c.lo j g1 g2 hj
  ·have:j=i:=by omega
   subst this;rw[c.at_ g1 g2,fO g2];show wk _ (shl f t0[j].kids.length t0[j].kids)=_;rw[aha];rfl
 ·rw[c.hi (i+1) g1 g2 (by omega),Wg];rfl
theorem wm.done{f:Nat}{t0 us:List Nd}{k:Nat}(c:wm f t0 us t0.length k):us=t0.map (sC f):=by
 refine BB (by simp[c.len]) λj h1 h2=>?_;have:j<t0.length:=by simpa using h2
 rw[c.lo j h1 this this];simp
section
variable {h0:Hf}{lo n0:K}{f:Nat}{t0:List Nd}{v:V}{m:List (V×V)}
theorem ahb(hlen:t0.length<100000)(hf:f<100000)(fm:∀i (hi:i<t0.length),t0[i].kids.length<1000000)(qz:∀i (hi:i<t0.length),∀k∈t0[i].kids,0<=k/\k<1000000){i:Nat}(hi:i<t0.length)(gg:n0.num<=lo.num){Q1:Ex->Env->Hf->K->Prop}
 (hQ:∀us h E',Ext h0 n0 h n->TO h lo n v us m->wm f t0 us (i+1) 0->dK [(k5,.i .i64 (f:Nat)),(k6,v),(k7,.i .i64 (i:Nat))] E'->Q1 .normal E' h n):
 ∀(r k:Nat) (us:List Nd) (h:Hf),t0[i].kids.length - k=r->k<=t0[i].kids.length->Ext h0 n0 h n->TO h lo n v us m->wm f t0 us i k->WC C T9 [(k5,.i .i64 (f:Nat)),(k6,v),(k7,.i .i64 (i:Nat)),(k8,.i .i64 (k:Nat))] h n (blk 2 Q1):=by
 intro r
 induction r with
 | zero=>
  intro k us h hr hk he iW hc;have gJ:k=t0[i].kids.length:=by omega
  subst gJ;have xh:i<us.length:=by rw[hc.len];exact hi
  obtain⟨cs,hs⟩:=(show dA h n v us from⟨m,iW.tm⟩).sl;obtain⟨vv,kv,hx⟩:=(show dA h n v us from⟨m,iW.tm⟩).node xh;have hl:us[i].kids.length=t0[i].kids.length:=by rw[hc.at_ xh hi];exact M8 _ _ _
  have Jd:=hx.kids;refine aJ ?_;refine ξ<|ζ<|γ U<|γ U<|γ U<|bj U U (hs) (xh)<|ρ U<|ν U (hx.ks _)<|az U (Jd)<|aO U U<|ε ?_;refine ay U (by simp[hl])<|bM (hQ us h _ he iW (wm.next (by rw[fO hi];exact hc)) ⟨rfl,rfl,rfl,trivial⟩)
 | succ r ih=>
  intro k us h hr hk he iW hc;have ω:k<t0[i].kids.length:=by omega
  have xh:i<us.length:=by rw[hc.len];exact hi
  have him:i<m.length:=by rw[iW.rows.len];exact xh
  obtain⟨cs,hs⟩:=(show dA h n v us from⟨m,iW.tm⟩).sl;have tk:=iW.rows.get i xh him;have wM:=iW.sl;have hl:us[i].kids.length=t0[i].kids.length:=by rw[hc.at_ xh hi];exact M8 _ _ _
  have Fu:k<us[i].kids.length:=by omega
  have mJ:aX h true 5 (.p v.blk (v.off+i*5))=some (.a (cR us[i] m[i].1 m[i].2)):=by have:=wM.nF (i:=i*5) (sz:=5) (by omega) (by omega);rw[Er iW.rows.len xh]at this;exact this
  have nk:aX h false 1 (.p v.blk (v.off+i*5+4))=some m[i].2:=yl mJ rfl;have hg:=tk.k.get Fu 1;have Fh:us[i].kids[k]=t0[i].kids[k]:=by
   have e:=hc.at_ xh hi;have:us[i].kids=shl f k t0[i].kids:=by rw[e];rfl
   simp only[this];exact ag7 ω
  rw[Fh]at hg;have auq:=qz i hi t0[i].kids[k] (fW _);have IC:=fm i hi;have aR:m[i].2≠.ns:=by
   intro h;have:=tk.k;rw[h]at this;rcases this.2 with g | ⟨⟨b,o,c,g,_⟩,_⟩
   ·have:=g.2;omega
   ·rcases g with g | g
    ·cases g.1
    ·cases g
  have mK:m[i].2=.su m[i].2.blk 0 us[i].kids.length 1/\h m[i].2.blk=some (.c (ij .i64 us[i].kids) 3 0):=by
   rcases tk.ko with g | g
   ·exact absurd g aR
   ·exact g
  have ahd:n0.num<=m[i].2.blk.num:=by
   rcases tk.kr with g | g
   ·exact absurd g aR
   ·omega
  have ahe:m[i].2.off=0:=by rw[mK.1];rfl
  refine aJ ?_;refine ξ<|ζ<|γ U<|γ U<|γ U<|bj U U (hs) (xh)<|ρ U<|ν U (nk)<|az U (tk.k)<|aO U U<|ε ?_;refine an U (by simp<;>omega)<|ae ?_;refine ξ<|aC<|uG<|ao U<|ao U<|cX U U (hs) (xh)<|bX U<|aD U (nk) (φ.below tk.k (χ _)) (φ.da tk.k)<|ao U<|ao U<|ao U<|cX U U (hs) (xh)<|bX U<|aD U (nk) (φ.below tk.k (χ _)) (φ.da tk.k)<|ao U<|cX U U (tk.k) (Fu)<|aD U (hg) (rfl) (fK _ _)<|ao U<|Ci U U ⟨by omega,by omega⟩<|cX U U (tk.k) (Fu)<|fV U U (mK.2) (Iv (i:=k) Fu _ (by rw[ahe];omega)) <| λh1 a1 b1=>cG (⟨⟨Ω (by simp[Nat.testBit]),trivial⟩,⟨Ω (by simp[Nat.testBit]),trivial⟩,⟨Ω (by simp[Nat.testBit]),trivial⟩,trivial⟩) ?_;have b1':de m[i].2.blk h h1:=b1;have YH:h1 m[i].2.blk=some (.c (ij .i64 (us[i].kids.set k (t0[i].kids[k] - f))) 3 0):=a1;refine aL<|γ U<|cU U U ⟨by omega,by omega⟩<|γ U<|ε ?_;exact Γ (ih (k+1) _ h1 (by omega) (by omega) (he.aj b1' ahd) (iW.ag6 xh him Fu b1' YH) (hc.set xh hi ω)) ⟨rfl,rfl,rfl,rfl,trivial⟩
theorem ahg(hlen:t0.length<100000)(hf:f<100000)(fm:∀i (hi:i<t0.length),t0[i].kids.length<1000000)(qz:∀i (hi:i<t0.length),∀k∈t0[i].kids,0<=k/\k<1000000)(gg:n0.num<=lo.num){Q1:Ex->Env->Hf->K->Prop}
 (hQ:∀h E',Ext h0 n0 h n->TO h lo n v (t0.map (sC f)) m->dK [(k6,v)] E'->Q1 .normal E' h n):
 ∀(r i:Nat) (us:List Nd) (h:Hf),t0.length - i=r->i<=t0.length->Ext h0 n0 h n->TO h lo n v us m->wm f t0 us i 0->WC C Ua [(k5,.i .i64 (f:Nat)),(k6,v),(k7,.i .i64 (i:Nat))] h n (blk 0 Q1):=by
 intro r
 induction r with
 | zero=>
  intro i us h hr hi he iW hc;have:i=t0.length:=by omega
  subst this;obtain⟨cs,hs⟩:=(show dA h n v us from⟨m,iW.tm⟩).sl;have ju:=hc.len;refine aJ ?_;refine ξ<|ζ<|γ U<|γ U<|az U (hs)<|aO U U<|ε ?_;exact ay U (by simp[ju])<|bM (hQ h _ he (by rw[←hc.done];exact iW) ⟨rfl,trivial⟩)
 | succ r ih=>
  intro i us h hr hi he iW hc;obtain⟨cs,hs⟩:=(show dA h n v us from⟨m,iW.tm⟩).sl;have ju:=hc.len;have ω:i<t0.length:=by omega
  refine aJ ?_;refine ξ<|ζ<|γ U<|γ U<|az U (hs)<|aO U U<|ε ?_;refine an U (by simp<;>omega)<|ae ?_;refine ξ<|aC<|ζ<|γ U<|ε ?_;refine aC<|Γ (ahb hlen hf fm qz ω gg ?_ _ 0 us h rfl (by omega) he iW hc) ⟨rfl,rfl,rfl,rfl,trivial⟩;intro us1 h1 E1 e1 M6 c1 s1;refine dQ s1 ?_;refine aL<|γ U<|cU U U ⟨by omega,by omega⟩<|γ U<|ε ?_;exact Γ (ih (i+1) us1 h1 (by omega) (by omega) e1 M6 c1) ⟨rfl,rfl,rfl,trivial⟩
end
theorem Bd.sub{ts:List Nd}(hb:Bd ts)(i j:Nat):Bd ((ts.drop i).take j):=by
 have key:∀x∈(ts.drop i).take j,∃k,∃hk:k<ts.length,x=ts[k]:=by intro x hx;obtain⟨k,hk,rfl⟩:=uu (Dw (wv hx));exact⟨k,hk,rfl⟩
 refine⟨by have:=hb.len;simp;omega,λk hk=>?_,λk hk=>?_,λk hk=>?_,λk hk=>?_⟩
 all_goals (obtain⟨q,hq,e⟩:=key _ (fW hk);rw[e])
 ·exact hb.pX q hq
 ·exact hb.nm q hq
 ·exact hb.vl q hq
 ·exact hb.vn q hq
def TG(h:Hf)(lo n:K)(v:V)(ts:List Nd):Prop:=∃m,mU h n v ts m/\(v=.ns\/lo.num<=v.blk.num)/\∀p∈m,(p.1=.ns\/lo.num<=p.1.blk.num)/\(p.2=.ns\/lo.num<=p.2.blk.num)
theorem TO.tg{h:Hf}{lo n:K}{v:V}{ts:List Nd}{m:List (V×V)}(a:TO h lo n v ts m){zV:K}(hl:zV.num<=lo.num):TG h zV n v ts:=by refine⟨m,a.tm,a.ge.imp id λh=>by omega,λp hp=>?_⟩;obtain⟨j,hj,rfl⟩:=uu hp;have:=a.rows.get j (by rw[←a.rows.len];exact hj) hj;exact⟨this.vr.imp id λh=>by omega,this.kr.imp id λh=>by omega⟩
theorem TG.t{h:Hf}{lo n:K}{v:V}{ts:List Nd}(a:TG h lo n v ts):dA h n v ts:=⟨a.choose,a.choose_spec.1⟩
theorem TG.skip{h h':Hf}{lo n n':K}{v:V}{ts:List Nd}(a:TG h lo n v ts)(hs:∀b:K,lo.num<=b.num->b.num<n.num->h' b=h b)(hn:n.num<=n'.num):TG h' lo n' v ts:=by
 obtain⟨m,⟨hm,h1,h2⟩,h3,h4⟩:=a;have key:∀{v:V} {z len:Nat} {cs:List V},φ h n z v len cs->(v=.ns\/lo.num<=v.blk.num)->φ h' n' z v len cs:=by
  intro v z len cs a hl;refine φ.AU a ?_ hn;rcases hl with g | g
  ·exact Or.inl g
  ·rcases φ.vJ a with k | k
   ·exact Or.inl k
   ·exact Or.inr (hs _ g k)
 exact⟨m,⟨hm,key h1 h3,λi hi=>⟨key (h2 i hi).1 (h4 _ (fW _)).1,key (h2 i hi).2 (h4 _ (fW _)).2⟩⟩,h3,h4⟩
theorem ahh(hC:Cd C){t:V}{ts:List Nd}{i:Nat}(ht:dA h n t ts)(hb:Bd ts)(hi:i<ts.length)(ho:∀j,j<ts.length->ord ts j=true)
 (hQ:∀v' h' n',Ext h n h' n'->TG h' n n' v' (part ts i)->Q v' h' n'):τ C (.f 160 [] []) [t,.i .i64 (i:Nat)] h n Q:=by
 refine τ.go hC.f160 U ?_;have hlen:=hb.len;have wJ:=kK ts i;refine ζ<|γ U<|ε ?_;have oK:i<(fl ts ts.length).length:=by rw[mW];exact hi
 have mV:(fl ts ts.length)[i]=fs ts i:=by rw[←jm oK];exact Is ts hi
 have hg:∀{v':V} {h':Hf} {n':K},aQ h' n' .i64 v' (fl ts ts.length)->aX h' false 1 (.p v'.blk (v'.off+i*1))=some (.i .i64 (fs ts i:Nat)):=by intro v' h' n' a;have:=a.get oK 1;rw[mV]at this;exact this
 refine ζ<|γ U<|ak U U<|w78 hC ht (by omega) hb.pX <| λvf h1 n1 e1 iF=>γ U<|bj U U (iF) (oK)<|ν U (hg iF)<|γ U<|ε ?_;have y5:=ht.ext e1;obtain⟨cs,hs⟩:=y5.sl;generalize hf:fs ts i=f at*;refine ζ<|γ U<|γ U<|γ U<|lz U U (show(i:Int)+1=((i+1:Nat):Int) from rfl) ⟨by omega,by omega⟩<|K3 U (hs) U U ((show f<=i+1 by omega)) ((show i+1<=ts.length by omega)) <| λv2 i2 l2=>ak U U<|ag1 hC (dA.sub y5 (by omega) hs i2) (hb.sub _ _) <| λvo m h3 n3 e3 to3=>γ U<|ε ?_;have hL:((ts.drop f).take (i+1 - f)).length=i+1 - f:=by simp;omega
 have ku:=hb.sub f (i+1 - f);have qz:∀q (hq:q<((ts.drop f).take (i+1 - f)).length),∀k∈((ts.drop f).take (i+1 - f))[q].kids,0<=k/\k<1000000:=by
  intro q hq k hk;have e:((ts.drop f).take (i+1 - f))[q]=ts[f+q]'(by omega):=by simp
  rw[e]at hk;have:=Fq (by omega) (ho (f+q) (by omega)) k hk;omega
 refine ξ<|ζ<|γ U<|ε ?_;refine aC<|Γ (ahg (h0:=h1) (n0:=n1) (lo:=n1) ku.len (by omega) ku.pX qz (χ _) ?_ _ 0 _ h3 rfl (by omega) e3 to3 (wm.start _ _)) ⟨rfl,rfl,rfl,trivial⟩;intro h4 E4 e4 to4 s4;refine dQ s4 ?_;refine ζ<|γ U<|γ U<|ε (Θ ⟨_,rfl,hQ vo h4 n3 (e1.trans e4) (by unfold part;rw[hf];exact to4.tg e1.1)⟩)
def yM(h:Hf)(n:K)(v:V)(l:List (List Nd)):Prop:=∃hs:List V,hs.length=l.length/\φ h n 1 v l.length hs/\∀i (h1:i<hs.length) (h2:i<l.length),dA h n hs[i] l[i]
def parts(ts:List Nd):List (List Nd):=(iC ts (ts.length - 1)).map λk=>part ts k.toNat
theorem Wh{l:List V}{i:Nat}(h:i<l.length):nth l i=some l[i]:=by
 induction l generalizing i with
 | nil=>simp at h
 | cons a l ih=>cases i with
  | zero=>rfl
  | succ i=>exact ih (by simpa using h)
theorem dA.one{v:V}{ts:List Nd}(a:dA h n v ts):v.one=true:=a.sl.choose_spec.one
theorem dA.cells{v:V}{ts:List Nd}(a:dA h n v ts):v.cells=[v]:=a.sl.choose_spec.cells
theorem ahi(hC:Cd C){h0:Hf}{n0:K}{t:V}{ts:List Nd}{ks:List Int}(ht:dA h0 n0 t ts)(hb:Bd ts)(AV:0<ts.length)(ho:∀j,j<ts.length->ord ts j=true)(nk:ks=iC ts (ts.length - 1)){Q1:Ex->Env->Hf->K->Prop}
 (hQ:∀vo h n E',Ext h0 n0 h n->yM h n vo (ks.map λk=>part ts k.toNat)->dK [(k3,vo)] E'->Q1 .normal E' h n):
 ∀(r i:Nat) (vo:V) (hs:List V) (h:Hf) (n:K),ks.length - i=r->i<=ks.length->hs.length=i->(∀j (h1:j<hs.length) (h2:j<ks.length),vo≠.ns/\dA h vo.blk hs[j] (part ts ks[j].toNat))->Gr h0 n0 h n 23 1 vo i hs->WC C T8 [(k0,t),(k3,vo),(k4,.i .i64 (i:Nat))] h n (blk 0 Q1):=by
 have hlen:=hb.len;have kW:ts.length - 1<ts.length:=by omega
 have Fv:ks=ts[ts.length - 1].kids:=by rw[nk,mj kW]
 have fm:=hb.pX _ kW;have qz:=Fq kW (ho _ kW);rw[←Fv]at fm qz;intro r
 induction r with
 | zero=>
  intro i vo hs h n hr hi hl hh hg;have:i=ks.length:=by omega
  subst this;obtain⟨m,tm⟩:=ht.ext hg.ext;refine aJ ?_;refine ξ<|ζ<|γ U<|γ U<|ak U U<|MY hC tm (by omega) AV <| λh1 n1 vv kv e1 _ _ hk=>yq U U<|az U ((show eL h1 n1 .i64 kv ks by rw[Fv];exact hk.ext e1))<|aO U U<|ε ?_;refine ay U (by simp)<|bM (hQ vo h1 n1 _ (hg.ext.trans e1) ⟨hs,by simp[hl],by rw[wy];exact hg.sl.ext e1,λj g1 g2=>?_⟩ ⟨rfl,trivial⟩);rw[List.getElem_map];have:=hh j g1 (by simpa using g2);exact((this.2.ext (n':=n) ⟨hg.lt.elim (λe=>absurd e this.1) fY,λ_ _=>rfl⟩)).ext e1
 | succ r ih=>
  intro i vo hs h n hr hi hl hh hg;have ω:i<ks.length:=by omega
  obtain⟨m,tm⟩:=ht.ext hg.ext;have hki:=qz ks[i] (fW _);obtain⟨k',gJ⟩:∃k':Nat,ks[i]=(k':Int):=⟨ks[i].toNat,by omega⟩;refine aJ ?_;refine ξ<|ζ<|γ U<|γ U<|ak U U<|MY hC tm (by omega) AV <| λh1 n1 vv kv e1 _ _ hk=>yq U U<|az U ((show eL h1 n1 .i64 kv ks by rw[Fv];exact hk.ext e1))<|aO U U<|ε ?_;refine an U (by simp<;>omega)<|ae ?_;have g1:=hg.on e1;obtain⟨m1,sw⟩:=ht.ext g1.ext;have hgk:∀{kv:V} {h':Hf} {n':K},eL h' n' .i64 kv ks->aX h' false 1 (.p kv.blk (kv.off+i*1))=some (.i .i64 (k':Nat)):=by intro kv h' n' a;have:=a.get ω 1;rw[gJ]at this;exact this
  have ahj:=g1.ext;refine ξ<|aC<|aL<|γ U<|γ U<|γ U<|ak U U<|MY hC sw (by omega) AV <| λh2 n2 vv2 kv2 e2 _ _ nw=>yq U U<|γ U<|bj U U ((show eL h2 n2 .i64 kv2 ks by rw[Fv];exact nw.ext e2)) (ω)<|ν U (hgk (show eL h2 n2 .i64 kv2 ks by rw[Fv];exact nw.ext e2))<|ak U U<|ahh hC (ht.ext (ahj.trans e2)) hb (by omega) ho <| λv3 h3 n3 e3 OL=>lu (vT rfl OL.t.cells OL.t.one) <| λh4 n4 wj a4 e4=>yr U ((((g1.on e2).on e3).on e4).own) U (φ.whole (len:=1) (by omega) a4 rfl) (by omega) (by omega) (by omega) (by omega) (by simp only[bE,OL.t.one];rfl) ((((g1.on e2).on e3).on e4).lt) <| λv5 h5 n5 o5 q5 xz s5=>γ U<|ε ?_;have g4:=((g1.on e2).on e3).on e4;have g5:=g4.app o5 q5 xz s5;have n2':=e2.1;have M9:=e1.1;have YI:=e3.1;have n4':=e4.1;refine aL<|γ U<|cU U U ⟨by omega,by omega⟩<|γ U<|ε ?_;refine Γ (ih (i+1) v5 (hs++[v3]) h5 n5 (by omega) (by omega) (by simp[hl]) ?_ g5) ⟨rfl,rfl,rfl,trivial⟩;intro j xy YJ;have ahl:v5≠.ns:=by
   intro e;rw[e]at o5;rcases o5.2 with g | ⟨_,b,g,_⟩
   ·have:=g.2;omega
   ·cases g
  refine⟨ahl,?_⟩;by_cases hj:j<hs.length
  ·rw[List.getElem_append_left hj];obtain⟨a1,a2⟩:=hh j hj YJ;have cZ:=hg.lt.resolve_left a1;refine a2.ext ⟨by rw[q5];omega,λk hk=>?_⟩;rw[s5 k (by omega) (Or.inr (by omega)),e4.2 k (by omega),e3.2 k (by omega),e2.2 k (by omega),e1.2 k (by omega)]
  ·have eN:j=i:=by simp at xy;omega
   subst eN;have e0:(hs++[v3])[j]=v3:=by simp[←hl]
   rw[e0,gJ];refine(TG.skip (n':=v5.blk) OL (λb qU fM=>?_) (by rw[q5];omega)).t;rw[s5 b (by omega) (hg.lt.imp id λh=>by omega),e4.2 b (by omega)]
theorem w87(hC:Cd C){t:V}{ts:List Nd}(ht:dA h n t ts)(hb:Bd ts)(AV:0<ts.length)(ho:∀j,j<ts.length->ord ts j=true)
 (hQ:∀v' h' n',Ext h n h' n'->yM h' n' v' (parts ts)->Q v' h' n'):τ C (.f 87 [] []) [t] h n Q:=by
 refine τ.go hC.f87 U ?_;refine ζ<|γ U<|ε ?_;refine ζ<|γ U<|ε ?_;refine ξ<|ζ<|γ U<|ε ?_;refine aC<|Γ (ahi hC ht hb AV ho rfl ?_ _ 0 .ns [] h n rfl (by omega) U (λj h1=>by simp at h1) (Gr.ns (Ext.refl h n))) ⟨rfl,rfl,rfl,trivial⟩;intro vo h1 n1 E1 e1 l1 s1;refine dQ s1 ?_;refine ζ<|γ U<|γ U<|ε (Θ ⟨_,rfl,hQ vo h1 n1 e1 l1⟩)
end
end Go.Ev.X
namespace Go.Ev.X
open Go Go.Ev
def oS(ts:List Nd):List Int->Int->Int
 | [],next=>next
 | k::l,_=>oS ts l (fs ts k.toNat)
theorem CB{ts:List Nd}:∀{l:List Int} {next:Int},fB (fs ts) l next=true->oS ts l next<=next/\∀k∈l,oS ts l next<=fs ts k.toNat/\0<=k/\k<next:=by
 intro l
 induction l with
 | nil=>intro next _;exact⟨Int.le_refl _,λk hk=>by cases hk⟩
 | cons a l ih=>
  intro next ho;simp only[fB]at ho;split at ho
  ·cases ho
  ·rename_i Mw;have h1:=ih ho;have h2:=kK ts a.toNat;simp only[oS];refine⟨by omega,λk hk=>?_⟩;cases hk with
   | head=>exact⟨h1.1,by omega,by omega⟩
   | tail _ hk=>have:=h1.2 k hk;exact⟨this.1,this.2.1,by omega⟩
theorem ahn{ts:List Nd}:∀{l:List Int} {next:Int},fB (fs ts) l next=true->∀p:Int,oS ts l next<=p->p<next->∃k∈l,(fs ts k.toNat:Int)<=p/\p<=k:=by
 intro l
 induction l with
 | nil=>intro next _ p h1 h2;simp only[oS]at h1;omega
 | cons a l ih=>
  intro next ho p h1 h2;simp only[fB]at ho;split at ho
  ·cases ho
  ·rename_i Mw;simp only[oS]at h1;by_cases h3:(fs ts a.toNat:Int)<=p
   ·exact⟨a,by simp,h3,by omega⟩
   ·obtain⟨k,hk,h4⟩:=ih ho p h1 (by omega);exact⟨k,by simp[hk],h4⟩
theorem aho{ts:List Nd}(l:List Int)(k next:Int):oS ts (l++[k]) next=fs ts k.toNat:=by
 induction l generalizing next with
 | nil=>rfl
 | cons a l ih=>exact ih _
theorem IE{ts:List Nd}{i:Nat}(ho:ord ts i=true):(fs ts i:Int)=oS ts (iC ts i).reverse i:=by
 rw[VF];cases h:iC ts i with
 | nil=>rfl
 | cons k ks=>simp only[ho,if_true,List.reverse_cons];rw[aho]
theorem ahp{ts:List Nd}:∀(i:Nat),(∀j,j<=i->ord ts j=true)->∀p,fs ts i<=p->p<=i->fs ts i<=fs ts p:=by
 intro i
 induction i using Nat.strongRecOn with
 | _ i ih=>
  intro ho p h1 h2;by_cases hp:p=i
  ·rw[hp];exact χ _
  ·have h3:=IE (ho i (χ i));have Na:fB (fs ts) (iC ts i).reverse i=true:=ho i (χ i);obtain⟨k,hk,h4,h5⟩:=ahn Na (p:Int) (by omega) (by omega);have h6:=(CB Na).2 k hk;obtain⟨k',rfl⟩:∃k':Nat,k=(k':Int):=⟨k.toNat,by omega⟩;have h7:((k':Nat):Int).toNat=k':=rfl;rw[h7]at h4 h6;have:=ih k' (by omega) (λj hj=>ho j (by omega)) p (by omega) (by omega);omega
theorem ahq{ts:List Nd}{f:Nat}{g:Nat->Nat}:∀{l:List Int} {next:Int},(f:Int)<=next->(∀k∈l,(f:Int)<=k->k<next->f<=fs ts k.toNat/\g (k - f).toNat=fs ts k.toNat - f)->(f:Int)<=oS ts l next->fB (fs ts) l next=true->fB g (l.map λk=>k - f) (next - f)=true:=by
 intro l
 induction l with
 | nil=>intro next _ _ _ _;rfl
 | cons a l ih=>
  intro next hn hg hl ho;have nu:=ho;simp only[fB]at ho;split at ho
  ·cases ho
  ·rename_i Mw;have hle:=(CB nu).2 a (by simp);simp only[oS]at hl hle;have hfa:=kK ts a.toNat;have h1:=CB ho;have h2:=hg a (by simp) (by omega) (by omega);simp only[lP,fB];rw[Ξ (by omega),h2.2];have:=ih (next:=(fs ts a.toNat:Int)) (by omega) (λk hk h3 h4=>hg k (by simp[hk]) h3 (by omega)) hl ho;rw[show((fs ts a.toNat - f:Nat):Int)=(fs ts a.toNat:Int) - f by omega];exact this
theorem CC{ts:List Nd}{i j:Nat}(hi:i<ts.length)(hj:j<(part ts i).length):(part ts i)[j]=sC (fs ts i) (ts[fs ts i+j]'(by rw[oR hi]at hj;omega)):=by simp[part]
theorem Nb{ts:List Nd}{i j:Nat}(hi:i<ts.length)(hj:j<(part ts i).length):iC (part ts i) j=(iC ts (fs ts i+j)).map λk=>k - (fs ts i:Int):=by
 have h:fs ts i+j<ts.length:=by rw[oR hi]at hj;have:=kK ts i;omega
 rw[mj hj,CC hi hj,mj h];rfl
theorem Wi{ts:List Nd}{i:Nat}(hi:i<ts.length)(ho:∀j,j<ts.length->ord ts j=true):∀j,j<(part ts i).length->ord (part ts i) j=true/\fs (part ts i) j=fs ts (fs ts i+j) - fs ts i/\fs ts i<=fs ts (fs ts i+j):=by
 have hle:=kK ts i;intro j
 induction j using Nat.strongRecOn with
 | _ j ih=>
  intro hj;have eN:fs ts i+j<=i:=by rw[oR hi]at hj;omega
  have D5:=ahp i (λq hq=>ho q (by omega)) (fs ts i+j) (by omega) eN;have hoj:=ho (fs ts i+j) (by omega);have Na:fB (fs ts) (iC ts (fs ts i+j)).reverse (fs ts i+j:Nat)=true:=hoj;have tn:=IE hoj;have fm:=CB Na;have xg:ord (part ts i) j=true:=by
   unfold ord;rw[Nb hi hj,←List.map_reverse];have:=ahq (ts:=ts) (f:=fs ts i) (g:=fs (part ts i)) (next:=((fs ts i+j:Nat):Int)) (by omega) (λk hk h1 h2=>?_) (by rw[←tn];omega) Na
   ·rw[show(j:Int)=((fs ts i+j:Nat):Int) - (fs ts i:Int) by omega];exact this
   ·have:=ih (k - (fs ts i:Int)).toNat (by omega) (by omega);have e:fs ts i+(k - (fs ts i:Int)).toNat=k.toNat:=by omega
    rw[e]at this;exact⟨this.2.2,this.2.1⟩
  refine⟨xg,?_,D5⟩;have e1:(fs (part ts i) j:Int)=(fs ts (fs ts i+j):Int) - fs ts i:=by
   rw[IE xg,tn,Nb hi hj,←List.map_reverse];have key:∀(l:List Int) (nx:Int),(∀k∈l,(fs ts i:Int)<=k/\k<(fs ts i+j:Nat))->oS (part ts i) (l.map λk=>k - (fs ts i:Int)) (nx - fs ts i)=oS ts l nx - fs ts i:=by
    intro l
    induction l with
    | nil=>intro nx _;rfl
    | cons a l kR=>
     intro nx h;have ha:=h a (by simp);have:=ih (a - (fs ts i:Int)).toNat (by omega) (by omega);have e:fs ts i+(a - (fs ts i:Int)).toNat=a.toNat:=by omega
     rw[e]at this;simp only[lP,oS,this.2.1];rw[←kR (fs ts a.toNat) (λk hk=>h k (by simp[hk]))];congr 1;omega
   have:=key (iC ts (fs ts i+j)).reverse ((fs ts i+j:Nat):Int) (λk hk=>by have h1:=fm.2 k hk;have h2:=kK ts k.toNat;omega)
   rw[←this];congr 1;omega
  omega
theorem ahs(f g:Nat)(x:Nd)(h:g<=f):sC (f - g) (sC g x)=sC f x:=by simp only[sC,List.map_map];congr 1;apply List.map_congr_left;intro k _;simp only[Function.comp];omega
theorem aht{ts:List Nd}{i j:Nat}(hi:i<ts.length)(ho:∀j,j<ts.length->ord ts j=true)(hj:j<(part ts i).length):part (part ts i) j=part ts (fs ts i+j):=by
 have h:=Wi hi ho j hj;have hle:=kK ts (fs ts i+j);have aur:=kK (part ts i) j;have eN:fs ts i+j<ts.length:=by rw[oR hi]at hj;have:=kK ts i;omega
 have tN:=oR hi;refine BB ?_ λq h1 h2=>?_
 ·rw[oR hj,oR eN,h.2.1];omega
 ·rw[CC hj h1];rw[CC eN h2];rw[oR hj]at h1;have hq:fs (part ts i) j+q<(part ts i).length:=by omega
  rw[CC hi hq];have e:fs ts i+(fs (part ts i) j+q)=fs ts (fs ts i+j)+q:=by rw[h.2.1];omega
  simp only[e];have:=ahs (fs ts (fs ts i+j)) (fs ts i) (ts[fs ts (fs ts i+j)+q]'(by rw[oR eN]at h2;omega)) h.2.2;rw[←h.2.1]at this;exact this
section
section
variable {C:Nat->Option bN}{E:Env}{h:Hf}{n:K}{q:Env->Hf->K->Prop}{l:List AO}{Δ:Nat}{k:V->Hf->K->Prop}
theorem Wj{e z bytes m len:Nat}{zl new cs:List V}{s x:ax}{b:K}{v:V}(hs:ge E s=some (.sl b 0 len len))(ho:φ h n z (.sl b 0 len len) len cs)(hx:ge E x=some v)(a:φ h n z v m new)(h1:(len+m)*bytes<=1000000000)(h2:bytes<=100000)(h3:len+m<=1000000000)(hm:0<m)
 (hk:∀v' h' n',ig h' e z v' (len+m) (cs++new)->v'.blk=n->n'.num=n.num+1->Ext h n h' n'->k v' h' n'):SO C (.app e z bytes zl false s x) E h n k:=
 uE (λ_ _ _ _=>rfl) λT H hT hH=>by
  have we:(!(Nat.ble (Nat.mul (Nat.add (V.len (.sl b 0 len len)) m) bytes) 1000000000&&Nat.ble bytes 100000&&Nat.ble (Nat.add (V.len (.sl b 0 len len)) m) 1000000000))=false:=room (l:=len) (m:=m) (bytes:=bytes) h1 h2 h3;have hb:Nat.ble (Nat.add len m) len=false:=by rw[jF];simp<;>omega
  refine⟨.su n 0 (len+m) z,H.put (some (.c (cs++new) e 0)) n,n.succ,?_,?_⟩
  ·simp only[simple,hT.ge hs,hT.ge hx,a.elems hH,cond_false,wC,we,hb,ho.elems hH,kp];rfl
  ·rw[jS,hH];have hl:(cs++new).length=(len+m)*z:=by rw[oi,ho.1,a.1,iJ]
   exact hk _ _ _ ⟨hl,Or.inr ⟨by omega,n,rfl,fR _ _ _⟩⟩ rfl (K.fQ n) ((Ext.refl h n).new _)
def Ow(h:Hf)(n:K)(e z:Nat)(v:V)(len:Nat)(cs:List V):Prop:=
 (ig h e z v len cs/\(v=.ns\/v.blk.num<n.num))\/(∃b,v=.sl b 0 0 0/\len=0/\cs=[]/\φ h n z v 0 [])
theorem Ow.sl{e z len:Nat}{v:V}{cs:List V}(a:Ow h n e z v len cs):φ h n z v len cs:=by
 rcases a with a | ⟨b,h1,h2,h3,h4⟩
 ·exact a.1.sl a.2
 ·rw[h2,h3];exact h4
theorem Ow.ext{h':Hf}{n':K}{e z len:Nat}{v:V}{cs:List V}(a:Ow h n e z v len cs)(x:Ext h n h' n'):Ow h' n' e z v len cs:=by
 rcases a with a | ⟨b,h1,h2,h3,h4⟩
 ·exact Or.inl ⟨a.1.ext (a.2.imp id λg=>x.2 _ g),a.2.imp id λg=>fk g x.1⟩
 ·exact Or.inr ⟨b,h1,h2,h3,h4.ext x⟩
theorem ahu{e z bytes m len:Nat}{zl new cs:List V}{s x:ax}{o v:V}(hs:ge E s=some o)(ho:Ow h n e z o len cs)(hx:ge E x=some v)(a:φ h n z v m new)(h1:(len+m)*bytes<=1000000000)(h2:bytes<=100000)(h3:len+m<=1000000000)(hm:0<m)(gK:bE new=true)
 (hk:∀v' h' n',Ow h' n' e z v' (len+m) (cs++new)->v'.blk=n->n'.num=n.num+1->(∀b:K,b.num<n.num->(o=.ns\/b.num≠o.blk.num)->h' b=h b)->k v' h' n'):SO C (.app e z bytes zl false s x) E h n k:=by
 rcases ho with ho | ⟨b,rfl,rfl,rfl,h4⟩
 ·refine Rq hs ho.1 hx a h1 h2 h3 hm gK ho.2 λv' h' n' g1 g2 g3 g4=>hk v' h' n' (Or.inl ⟨g1,Or.inr (by rw[g2];omega)⟩) g2 g3 g4
 ·refine Wj hs h4 hx a h1 h2 h3 hm λv' h' n' g1 g2 g3 g4=>hk v' h' n' (Or.inl ⟨g1,Or.inr (by rw[g2];omega)⟩) g2 g3 λb hb _=>g4.2 b hb
theorem Wk{m':Made}{P:List PR}{B:List PB}{i:Nat}{d:K}{e z bytes m len:Nat}{zl new cs:List V}{s x:ax}{o v:V}(hs:ge E s=some o)(ho:Ow (ji h Δ m') n e z o len cs)(hx:ge E x=some v)(a:φ (ji h Δ m') n z v m new)(h1:(len+m)*bytes<=1000000000)(h2:bytes<=100000)(h3:len+m<=1000000000)(hm:0<m)(gK:bE new=true)
 (hk:∀v' h' n',Ow h' n' e z v' (len+m) (cs++new)->v'.blk=n->n'.num=n.num+1->(∀b:K,b.num<n.num->(o=.ns\/b.num≠o.blk.num)->h' b=ji h Δ m' b)->WD C l (i+1) ((d,v')::E) (oF h h' Δ m') n' m' P (⟨i,Δ,h,oF h h' Δ m'⟩::B) q):WD C (⟨some d,.app e z bytes zl false s x,none,Δ⟩::l) i E h n m' P B q:=KV U (ahu hs ho hx a h1 h2 h3 hm gK hk)
theorem Wl{d:K}{e z bytes m:Nat}{zl new:List V}{s x:ax}{b:K}{v:V}(hs:ge E s=some (.sl b 0 0 0))(ho:φ h n z (.sl b 0 0 0) 0 [])(hx:ge E x=some v)(a:φ h n z v m new)(h1:m*bytes<=1000000000)(h2:bytes<=100000)(h3:m<=1000000000)
 (hk:∀v' h' n',Ow h' n' e z v' m new->Ext h n h' n'->(v'=.ns\/v'.blk=b\/v'.blk=n)->WO C l ((d,v')::E) h' n' q):WO C (⟨some d,.app e z bytes zl false s x,none,Δ⟩::l) E h n q:=by
 by_cases hm:m=0
 ·subst hm;refine df (uE (λ_ _ _ _=>rfl) λT H hT hH=>?_);have we:(!(Nat.ble (Nat.mul (Nat.add (V.len (.sl b 0 0 0)) 0) bytes) 1000000000&&Nat.ble bytes 100000&&Nat.ble (Nat.add (V.len (.sl b 0 0 0)) 0) 1000000000))=false:=room (l:=0) (m:=0) (bytes:=bytes) (by simp) h2 (by omega);have K8:new=[]:=by have:=a.1;simpa using this
  subst K8;refine⟨.sl b 0 0 0,H,n,?_,?_⟩
  ·have hb:Nat.ble (Nat.add 0 0) 0=true:=rfl;have fM:Nat.beq 0 0=true:=rfl;simp only[simple,hT.ge hs,hT.ge hx,a.elems hH,cond_false,wC,we,hb,fM,cond_true]
  ·rw[hH];exact hk _ _ _ (Or.inr ⟨b,rfl,rfl,rfl,ho⟩) (Ext.refl h n) (Or.inr (Or.inl U))
 ·refine df (Wj hs ho hx a (by rw[iI];exact h1) h2 (by omega) (by omega) λv' h' n' g1 g2 g3 g4=>hk v' h' n' (Or.inl ⟨by rw[iI]at g1;exact g1,Or.inr (by rw[g2];omega)⟩) g4 (Or.inr (Or.inr g2)))
end
attribute [local irreducible] WC WO WD SO τ
variable {C:Nat->Option bN}{h:Hf}{n:K}{Q:V->Hf->K->Prop}
def kN(x y:S):List (S×S)->Option Bool
 | []=>none
 | p::l=>if p.1=x\/p.2=y then some (decide (p.1=x/\p.2=y)) else kN x y l
def mY:List (S×S)->List (S×S)->Bool
 | p::a,q::b=>decide (p.2=q.2)&&mY a b
 | _,_=>true
def iX:List (S×S)->List (S×S)->List (S×S)
 | p::a,q::b=>(p.1,q.1)::iX a b
 | _,_=>[]
def qG(f:List Nd->List Nd->Bool):List (List Nd)->List (List Nd)->Bool
 | a::l,b::m=>f a b&&qG f l m
 | _,_=>true
def jL(x y:Nd):Bool:=!decide (x.op=y.op)||(!decide (x.sort=y.sort)||(!decide (x.kids.length=y.kids.length)||!decide (x.vars.length=y.vars.length)))
def mZ:Nat->List Nd->List Nd->List (S×S)->Bool
 | 0,_,_,_=>false
 | m+1,a,b,l=>match a[a.length - 1]?,b[b.length - 1]? with
  | some x,some y=>
   if jL x y then false else
   match (if x.op=3 then kN x.name y.name l.reverse else none) with
   | some r=>r
   | none=>if x.name=y.name then (if mY x.vars y.vars then qG (λp q=>mZ m p q (l++iX x.vars y.vars)) (parts a) (parts b) else false) else false
  | _,_=>false
theorem Wm{l:List (S×S)}{m:Nat}(hm:m<l.length):(l.take (m+1)).reverse=l[m]::(l.take m).reverse:=by rw[pg hm,List.reverse_append];rfl
section
variable {x y:Nd}{vx kx vy ky:V}{bx ie:K}
theorem ahv{vl:V}{l:List (S×S)}(hl:ep h n vl l)(tt:l.length<20000000)(cx:Cl h n bx (cR x vx kx) 69)(cy:Cl h n ie (cR y vy ky) 69){v0 v1:V}{Q1:Ex->Env->Hf->K->Prop}
 (kL:∀r E',kN x.name y.name l.reverse=some r->lk E' k6=some (.b r)->Q1 .ret E' h n)
 (jj:kN x.name y.name l.reverse=none->∀E',dK [(k0,v0),(k1,v1),(k2,vl),(k7,.p bx 0),(k8,.p ie 0)] E'->Q1 .normal E' h n):
 ∀(m:Nat),m<=l.length->kN x.name y.name (l.take m).reverse=kN x.name y.name l.reverse->WC C TY [(k0,v0),(k1,v1),(k2,vl),(k7,.p bx 0),(k8,.p ie 0),(k9,.i .i64 ((m:Int) - 1))] h n (blk 0 Q1):=by
 have lx:aX h false 1 (.p bx (0+2))=some (st x.name):=cx.ld U _;have ly:aX h false 1 (.p ie (0+2))=some (st y.name):=cy.ld U _;intro m
 induction m with
 | zero=>
  intro hm hf;refine aJ ?_;refine ξ<|ζ<|γ U<|fL U U<|ε ?_;exact ay U (by simp<;>omega)<|bM (jj (by rw[←hf];rfl) _ ⟨rfl,rfl,rfl,rfl,rfl,trivial⟩)
 | succ m ih=>
  intro hm hf;have ω:m<l.length:=by omega
  have e:((m+1:Nat):Int) - 1=(m:Nat):=by omega
  rw[e];rw[Wm ω,kN]at hf;have l1:=hl.name ω 1;have l2:=hl.sort ω 1;refine aJ ?_;refine ξ<|ζ<|γ U<|fL U U<|ε ?_;refine an U (by simp<;>omega)<|ae<|ξ<|aC ?_;have fin:∀E,(l[m].1=x.name\/l[m].2=y.name)->dK [(k2,vl),(k7,.p bx 0),(k8,.p ie 0),(k9,.i .i64 (m:Nat)),(pS,.b true)] E->WC C TV E h n (blk 1 (sq C TW (sq C (.loop TX) (blk 0 Q1)))):=by
   intro E ho hE;rw[au ho]at hf;refine dQ hE ?_;refine an U U ?_;by_cases g1:l[m].1=x.name
   ·refine dh<|ao U<|ao U<|cX U U (hl) (ω)<|bX U<|aD U (l1) U (fA _ _)<|bX U<|aD U (lx) U (fA _ _)<|Ak U U<|ao U<|bV U (by simp[g1])<|ao U<|bV U (by simp[g1])<|ao U<|bV U (by simp[g1])<|cX U U (hl) (ω)<|bV U (by simp[g1])<|bX U<|bV U (by simp[g1])<|aD U (l2) U (fA _ _)<|bV U (by simp[g1])<|bX U<|bV U (by simp[g1])<|aD U (ly) U (fA _ _)<|bV U (by simp[g1])<|Ak U U<|yp U (by simp[g1]) U<|ao U<|cG (by simp[AG,gP,jW,Nat.testBit]) ?_;exact Θ (kL _ _ hf.symm (by show some (V.b _)=_;simp[g1]))
   ·refine dh<|ao U<|ao U<|cX U U (hl) (ω)<|bX U<|aD U (l1) U (fA _ _)<|bX U<|aD U (lx) U (fA _ _)<|Ak U U<|ao U<|cW U (by simp[g1])<|cW U (by simp[g1])<|cW U (by simp[g1])<|cW U (by simp[g1])<|cW U (by simp[g1])<|cW U (by simp[g1])<|cW U (by simp[g1])<|cW U (by simp[g1])<|vK U (by simp[g1]) U<|ao U<|cG (by simp[AG,gP,jW,Nat.testBit]) ?_;exact Θ (kL _ _ hf.symm (by show some (V.b _)=_;simp[g1]))
  by_cases g1:l[m].1=x.name
  ·refine dh<|ao U<|ao U<|cX U U (hl) (ω)<|bX U<|aD U (l1) U (fA _ _)<|bX U<|aD U (lx) U (fA _ _)<|Ak U U<|ao U<|cW U (by simp[g1])<|cW U (by simp[g1])<|cW U (by simp[g1])<|cW U (by simp[g1])<|cW U (by simp[g1])<|cW U (by simp[g1])<|cW U (by simp[g1])<|cW U (by simp[g1])<|yp U (by simp[g1]) U<|cG (by simp[AG,gP,jW,Nat.testBit]) ?_;exact fin _ (Or.inl g1) ⟨rfl,rfl,rfl,rfl,rfl,trivial⟩
  ·refine dh<|ao U<|ao U<|cX U U (hl) (ω)<|bX U<|aD U (l1) U (fA _ _)<|bX U<|aD U (lx) U (fA _ _)<|Ak U U<|ao U<|bV U (by simp[g1])<|ao U<|bV U (by simp[g1])<|ao U<|bV U (by simp[g1])<|cX U U (hl) (ω)<|bV U (by simp[g1])<|bX U<|bV U (by simp[g1])<|aD U (l2) U (fA _ _)<|bV U (by simp[g1])<|bX U<|bV U (by simp[g1])<|aD U (ly) U (fA _ _)<|bV U (by simp[g1])<|Ak U U<|vK U (by simp[g1]) U<|cG (by simp[AG,gP,jW,Nat.testBit]) ?_;by_cases g2:l[m].2=y.name
   ·exact fin _ (Or.inr g2) ⟨rfl,rfl,rfl,rfl,by show some (V.b _)=_;simp[g2],trivial⟩
   ·refine ay U (by simp[g2])<|ae ?_;rw[Ξ (by simp[g1,g2])]at hf;refine aL<|γ U<|iz U U ⟨by omega,by omega⟩<|γ U<|ε ?_;exact Γ (ih (by omega) hf) ⟨rfl,rfl,rfl,rfl,rfl,rfl,trivial⟩
end
theorem Wn{a b:List (S×S)}{i:Nat}(h1:i<a.length)(h2:i<b.length):iX (a.take (i+1)) (b.take (i+1))=iX (a.take i) (b.take i)++[(a[i].1,b[i].1)]:=by
 induction a generalizing b i with
 | nil=>simp at h1
 | cons p a ih=>
  cases b with
  | nil=>simp at h2
  | cons q b=>
   cases i with
   | zero=>simp[iX]
   | succ i=>
    have:=ih (b:=b) (i:=i) (by simpa using h1) (by simpa using h2);simp only[sD,iX,this,xK,zy]
theorem Wo{a b:List (S×S)}(h:a.length=b.length):(iX a b).length=a.length:=by
 induction a generalizing b with
 | nil=>simp[iX]
 | cons p a ih=>cases b with
  | nil=>simp at h
  | cons q b=>simp only[iX,fH,ih (by simpa using h)]
theorem Wp{a b:List (S×S)}{i:Nat}(h1:i<a.length)(h2:i<b.length):mY (a.drop i) (b.drop i)=(decide (a[i].2=b[i].2)&&mY (a.drop (i+1)) (b.drop (i+1))):=by rw[fC h1,fC h2,mY]
section
variable {x y:Nd}{vx kx vy ky:V}{bx ie:K}{h0:Hf}{n0:K}
theorem ahw{v0 v1:V}{l:List (S×S)}(hx:ep h0 n0 vx x.vars)(hy:ep h0 n0 vy y.vars)(sd:x.vars.length=y.vars.length)(hvx:x.vars.length<1000)(tt:l.length+1000<20000000)
 (cx:Cl h0 n0 bx (cR x vx kx) 69)(cy:Cl h0 n0 ie (cR y vy ky) 69){Q1:Ex->Env->Hf->K->Prop}
 (kL:∀h n E',Ext h0 n0 h n->mY x.vars y.vars=false->lk E' k6=some (.b false)->Q1 .ret E' h n)
 (jj:∀vi h n E',Ext h0 n0 h n->mY x.vars y.vars=true->Ow h n 151 2 vi (l.length+x.vars.length) (lh (l++iX x.vars y.vars))->dK [(k0,v0),(k1,v1),(aA,vi)] E'->Q1 .normal E' h n):
 ∀(m i:Nat) (vi:V) (h:Hf) (n:K),x.vars.length - i=m->i<=x.vars.length->mY (x.vars.drop i) (y.vars.drop i)=mY x.vars y.vars->Ext h0 n0 h n->Ow h n 151 2 vi (l.length+i) (lh (l++iX (x.vars.take i) (y.vars.take i)))->(vi=.ns\/n0.num<=vi.blk.num)->WC C TZ [(k0,v0),(k1,v1),(k7,.p bx 0),(k8,.p ie 0),(aA,vi),(aE,.i .i64 (i:Nat))] h n (blk 2 Q1):=by
 intro m
 induction m with
 | zero=>
  intro i vi h n hm hi hs he ho Nc;have:i=x.vars.length:=by omega
  subst this;have c1:=cx.ext he;have jV:=hx.ext he;refine aJ ?_;refine ξ<|ζ<|γ U<|ρ U<|ν U (c1.ld U _)<|az U (jV)<|aO U U<|ε ?_;refine ay U (by simp)<|bM (jj vi h n _ he ?_ ?_ ⟨rfl,rfl,rfl,trivial⟩)
  ·rw[←hs,gY];rfl
  ·rw[gM,show y.vars.take x.vars.length=y.vars by rw[sd,gM]]at ho;exact ho
 | succ m ih=>
  intro i vi h n hm hi hs he ho Nc;have ω:i<x.vars.length:=by omega
  have cZ:i<y.vars.length:=by omega
  have c1:=cx.ext he;have c2:=cy.ext he;have jV:=hx.ext he;have Ba:=hy.ext he;have YK:aX h false 1 (.p bx (0+3))=some vx:=c1.ld U _;have Nf:aX h false 1 (.p ie (0+3))=some vy:=c2.ld U _;have Jw:bB n vx=true:=φ.below jV (χ _);have Dj:bB n vy=true:=φ.below Ba (χ _);have ve1:=φ.da hx;have Ng:=φ.da hy;rw[Wp ω cZ]at hs;refine aJ ?_;refine ξ<|ζ<|γ U<|ρ U<|ν U (YK)<|az U (jV)<|aO U U<|ε ?_;refine an U (by simp<;>omega)<|ae ?_;refine ξ<|aC<|ξ<|dh<|bX U<|aD U (YK) (Jw) (ve1)<|ao U<|cX U U (jV) (ω)<|bX U<|aD U (jV.sort ω _) U (fA _ _)<|bX U<|aD U (Nf) (Dj) (Ng)<|ao U<|cX U U (Ba) (cZ)<|bX U<|aD U (Ba.sort cZ _) U (fA _ _)<|Rs U U<|cG (by simp[AG,gP,jW,Nat.testBit]) ?_;by_cases Dk:x.vars[i].2=y.vars[i].2
  ·refine ay U (by simp[Dk])<|ae ?_;rw[show decide (x.vars[i].2=y.vars[i].2)=true by simp[Dk],wz]at hs;refine uG<|ao U<|bX U<|aD U (YK) (Jw) (ve1)<|ao U<|cX U U (jV) (ω)<|bX U<|aD U (jV.name ω _) U (fA _ _)<|bX U<|aD U (Nf) (Dj) (Ng)<|ao U<|cX U U (Ba) (cZ)<|bX U<|aD U (Ba.name cZ _) U (fA _ _)<|wR (rfl)<|rK U <| λh1 n1 dS a1 e1=>Wk U ((show Ow _ n1 151 2 vi _ _ from ho.ext e1)) U (φ.whole (len:=1) (by omega) a1 rfl) (by omega) (by omega) (by omega) (by omega) U <| λv2 h2 n2 o2 q2 iL s2=>ao U<|cG (⟨⟨Ω (by simp[Nat.testBit]),trivial⟩,⟨Ω (by simp[Nat.testBit]),trivial⟩,⟨Ω (by simp[Nat.testBit]),trivial⟩,⟨Ω (by simp[Nat.testBit]),trivial⟩,trivial⟩) ?_;have wL:=he.trans e1;have Gy:=he.1;have x2:Ext h0 n0 h2 n2:=by
    refine⟨by have:=wL.1;omega,λk hk=>?_⟩;have:=wL.1;exact(s2 k (by omega) (Nc.imp id λh=>by omega)).trans (wL.2 k hk)
   refine aL<|γ U<|cU U U ⟨by omega,by omega⟩<|γ U<|ε ?_;refine Γ (ih (i+1) v2 h2 n2 (by omega) (by omega) hs x2 ?_ (Or.inr (by rw[q2];have:=wL.1;omega))) ⟨rfl,rfl,rfl,rfl,rfl,rfl,trivial⟩;rw[Wn ω cZ,←Bz,Q5];exact o2
  ·refine an U (by simp[Dk]) ?_;rw[show decide (x.vars[i].2=y.vars[i].2)=false by simp[Dk],wx]at hs;refine ζ<|γ U<|ε ?_;exact Θ (kL h n _ he hs.symm U)
end
structure Rt(ts:List Nd):Prop where
 bd:Bd ts
 pos:0<ts.length
 ord:∀j,j<ts.length->ord ts j=true
theorem Rt.part{ts:List Nd}(r:Rt ts){i:Nat}(hi:i<ts.length):Rt (part ts i):=by
 have tN:=oR hi;have hle:=kK ts i;have key:∀j (hj:j<(X.part ts i).length),∃k,∃hk:k<ts.length,(X.part ts i)[j]=sC (fs ts i) ts[k]:=λj hj=>⟨_,_,CC hi hj⟩;refine⟨⟨by have:=r.bd.len;omega,λk hk=>?_,λk hk=>?_,λk hk=>?_,λk hk=>?_⟩,by omega,λj hj=>(Wi hi r.ord j hj).1⟩
 all_goals (obtain⟨q,hq,e⟩:=key k hk;rw[e])
 ·simp only[sC,wy];exact r.bd.pX q hq
 ·exact r.bd.nm q hq
 ·exact r.bd.vl q hq
 ·exact r.bd.vn q hq
theorem Wq{ts:List Nd}(h:0<ts.length):(parts ts).length=(ts[ts.length - 1]'(by omega)).kids.length:=by simp[parts,mj (show ts.length - 1<ts.length by omega)]
theorem Rt.parts{ts:List Nd}(r:Rt ts){j:Nat}(hj:j<(parts ts).length):Rt (X.parts ts)[j]/\(X.parts ts)[j].length<ts.length:=by
 have uA:=r.pos;have hl:=r.pos;have h1:ts.length - 1<ts.length:=by omega
 unfold X.parts at hj ⊢;rw[wy]at hj;rw[List.getElem_map];have hk:=xc (r.ord _ h1) ((iC ts (ts.length - 1))[j]) (fW _);have hi:((iC ts (ts.length - 1))[j]).toNat<ts.length:=by omega
 refine⟨r.part hi,?_⟩;rw[oR hi];omega
theorem ahy{f:List Nd->List Nd->Bool}{a b:List (List Nd)}{i:Nat}(h1:i<a.length)(h2:i<b.length):qG f (a.drop i) (b.drop i)=(f a[i] b[i]&&qG f (a.drop (i+1)) (b.drop (i+1))):=by rw[fC h1,fC h2,qG]
theorem yM.ext{h h':Hf}{n n':K}{v:V}{l:List (List Nd)}(a:yM h n v l)(e:Ext h n h' n'):yM h' n' v l:=by obtain⟨hs,h1,h2,h3⟩:=a;exact⟨hs,h1,h2.ext e,λi g1 g2=>(h3 i g1 g2).ext e⟩
theorem ahz(hC:Cd C){h0:Hf}{n0:K}{va vb vi:V}{A B:List (List Nd)}{l:List (S×S)}{m:Nat}(hA:yM h0 n0 va A)(hB:yM h0 n0 vb B)(hAB:A.length=B.length)(hAl:A.length<1000000)(hi:ep h0 n0 vi l)
 (ih:∀(j:Nat) (h1:j<A.length) (h2:j<B.length) (h:Hf) (n:K) (ta tb:V) (Q:V->Hf->K->Prop),dA h n ta A[j]->dA h n tb B[j]->ep h n vi l->(∀h' n',Ext h n h' n'->Q (.b (mZ m A[j] B[j] l)) h' n')->τ C (.f 32 [] []) [ta,tb,vi] h n Q)
 (hQ:∀h' n',Ext h0 n0 h' n'->Q (.b (qG (λp q=>mZ m p q l) A B)) h' n'):
 ∀(r i:Nat) (h:Hf) (n:K),A.length - i=r->i<=A.length->qG (λp q=>mZ m p q l) (A.drop i) (B.drop i)=qG (λp q=>mZ m p q l) A B->Ext h0 n0 h n->WC C T4 [(aA,vi),(aF,va),(aG,vb),(aP,.i .i64 (i:Nat))] h n (blk 4 (sq C T5 (fq [.t k6] Q))):=by
 intro r
 induction r with
 | zero=>
  intro i h n hr kS hz he;have:i=A.length:=by omega
  subst this;obtain⟨hs,_,sa,_⟩:=hA;have Nh:=sa.ext he;refine aJ ?_;refine ξ<|ζ<|γ U<|γ U<|az U (Nh)<|aO U U<|ε ?_;refine ay U (by simp)<|bM ?_;rw[gY]at hz;refine ζ<|γ U<|ε (Θ ⟨_,rfl,by have:=hQ h n he;rw[←hz]at this;exact this⟩)
 | succ r qf=>
  intro i h n hr kS hz he;have ω:i<A.length:=by omega
  have cZ:i<B.length:=by omega
  rw[ahy ω cZ]at hz;obtain⟨ha,Gv,sa,ta⟩:=hA;obtain⟨hb,hK,sb,tb⟩:=hB;have Nh:=sa.ext he;have sb':=sb.ext he;have hia:i<ha.length:=by omega
  have Dl:i<hb.length:=by omega
  have YL:=(ta i hia ω).ext he;have YM:=(tb i Dl cZ).ext he;have ga:aX h false 1 (.p va.blk (va.off+i*1))=some ha[i]:=by rw[lQ];exact Nh.get (Wh hia) 1
  have gb:aX h false 1 (.p vb.blk (vb.off+i*1))=some hb[i]:=by rw[lQ];exact sb'.get (Wh Dl) 1
  refine aJ ?_;refine ξ<|ζ<|γ U<|γ U<|az U (Nh)<|aO U U<|ε ?_;refine an U (by simp<;>omega)<|ae ?_;refine ξ<|aC<|dh<|ao U<|ao U<|cX U U (Nh) (ω)<|aD U (ga) (YL.sl.choose_spec.below (χ _)) (YL.sl.choose_spec.da)<|ao U<|ao U<|cX U U (sb') (cZ)<|aD U (gb) (YM.sl.choose_spec.below (χ _)) (YM.sl.choose_spec.da)<|ao U<|cj U U<|ih i ω cZ h n _ _ _ YL YM (hi.ext he) <| λh1 n1 e1=>rJ U<|cG (by simp[AG,gP,jW,Nat.testBit]) ?_;refine cB U (λhx=>?_) (λhx=>ae ?_)
  ·have hx:mZ m A[i] B[i] l=false:=by simpa using hx
   rw[hx,wx]at hz;refine ζ<|γ U<|ε (Θ ⟨_,rfl,by have:=hQ _ _ (he.trans e1);rw[←hz]at this;exact this⟩)
  ·have hx:mZ m A[i] B[i] l=true:=by simpa using hx
   rw[hx,wz]at hz;refine aL<|γ U<|cU U U ⟨by omega,by omega⟩<|γ U<|ε ?_;exact Γ (qf (i+1) h1 n1 (by omega) (by omega) hz (he.trans e1)) ⟨rfl,rfl,rfl,rfl,trivial⟩
theorem ahC{m:Nat}{a b:List Nd}{l:List (S×S)}(ha:a.length - 1<a.length)(hb:b.length - 1<b.length):mZ (m+1) a b l=
 if jL a[a.length - 1] b[b.length - 1] then false else
  match (if a[a.length - 1].op=3 then kN a[a.length - 1].name b[b.length - 1].name l.reverse else none) with
  | some r=>r
  | none=>if a[a.length - 1].name=b[b.length - 1].name then (if mY a[a.length - 1].vars b[b.length - 1].vars then qG (λp q=>mZ m p q (l++iX a[a.length - 1].vars b[b.length - 1].vars)) (parts a) (parts b) else false) else false:=by
 rw[mZ,fO ha,fO hb]
theorem w32(hC:Cd C):∀(m:Nat) (a b:List Nd) (ta tb vl:V) (l:List (S×S)) (h:Hf) (n:K) (Q:V->Hf->K->Prop),a.length<=m->Rt a->Rt b->dA h n ta a->dA h n tb b->ep h n vl l->l.length+1000*m<=19000000->(∀h' n',Ext h n h' n'->Q (.b (mZ m a b l)) h' n')->τ C (.f 32 [] []) [ta,tb,vl] h n Q:=by
 intro m
 induction m with
 | zero=>intro a b ta tb vl l h n Q hm ra;have:=ra.pos;omega
 | succ m ih=>
  intro a b ta tb vl l h n Q hm ra rb kX lO hl tt hQ;have pa:=ra.pos;have pb:=rb.pos;have la:=ra.bd.len;have lb:=rb.bd.len;have Gv:a.length - 1<a.length:=by omega
  have hK:b.length - 1<b.length:=by omega
  obtain⟨ma,tma⟩:=kX;obtain⟨mb,tmb⟩:=lO;rw[ahC Gv hK]at hQ;have sd:=ra.bd.vl _ Gv;have hpA:=Wq pa;have hpB:=Wq pb;have fm:=ra.bd.pX _ Gv;have hAr:=λ(j:Nat) (hj:j<(parts a).length)=>ra.parts hj;have hBr:=λ(j:Nat) (hj:j<(parts b).length)=>rb.parts hj;refine τ.go hC.f32 U ?_;generalize hx:a[a.length - 1]=x at*;generalize hy:b[b.length - 1]=y at*;have k1:∀{Q:V->Hf->K->Prop},(∀h' n' vv kv,Ext h n h' n'->ep h n vv x.vars->eL h n .i64 kv x.kids->Q (.a (cR x vv kv)) h' n')->τ C (.f 86 [] []) [ta] h n Q:=λhQ=>MY hC tma (by omega) pa λh' n' vv kv e _ g1 g2=>by rw[hx]at g1 g2 ⊢;exact hQ h' n' vv kv e g1 g2
  have Ea:∀{h1:Hf} {n1:K},Ext h n h1 n1->∀{Q:V->Hf->K->Prop},(∀h' n' vv kv,Ext h1 n1 h' n'->ep h1 n1 vv y.vars->eL h1 n1 .i64 kv y.kids->Q (.a (cR y vv kv)) h' n')->τ C (.f 86 [] []) [tb] h1 n1 Q:=λe1 Q hQ=>MY hC (mU.ext tmb e1) (by omega) pb λh' n' vv kv e _ g1 g2=>by rw[hy]at g1 g2 ⊢;exact hQ h' n' vv kv e g1 g2
  refine ζ<|γ U<|ε ?_;refine ζ<|γ U<|ak U U<|k1 <| λh1 n1 vx kx e1 bx ix=>γ U<|ak U U<|Ea e1 <| λh2 n2 vy ky e2 ie iy=>du <| λh3 n3 og a3 e3=>du <| λh4 n4 wj a4 e4=>bL U U ((Cl.ext (n:=n3) ⟨by omega,a3⟩ e4).2) (dW rfl rfl (kc x (φ.one bx) (φ.one ix))) <| λh5 a5 b5=>bL U U ((Cl.aj (n:=n4) ⟨by omega,a4⟩ b5 (by omega)).2) (dW rfl rfl (kc y (φ.one ie) (φ.one iy))) <| λh6 a6 b6=>ε ?_;have Jx:Ext h2 n2 h6 n4:=((e3.trans e4).aj b5 (χ _)).aj b6 (by omega);have Fw:=e2.trans Jx;have zk:=e1.trans Fw;have cx:Cl h6 n4 n2 (cR x vx kx) 69:=Cl.aj (n:=n4) ⟨by omega,a5⟩ b6 (by omega);have cy:Cl h6 n4 n3 (cR y vy ky) 69:=⟨by omega,a6⟩;have OM:=bx.ext zk;have ix6:=ix.ext zk;have YN:=ie.ext Fw;have iy6:=iy.ext Fw;have tB:aX h6 false 1 (.p n2 (0+0))=some (.i .i64 x.op):=cx.ld U _;have zm:aX h6 false 1 (.p n2 (0+1))=some (st x.sort):=cx.ld U _;have Jy:aX h6 false 1 (.p n2 (0+2))=some (st x.name):=cx.ld U _;have Ni:aX h6 false 1 (.p n2 (0+3))=some vx:=cx.ld U _;have Fx:aX h6 false 1 (.p n2 (0+4))=some kx:=cx.ld U _;have wo:aX h6 false 1 (.p n3 (0+0))=some (.i .i64 y.op):=cy.ld U _;have zp:aX h6 false 1 (.p n3 (0+1))=some (st y.sort):=cy.ld U _;have Jz:aX h6 false 1 (.p n3 (0+2))=some (st y.name):=cy.ld U _;have Nj:aX h6 false 1 (.p n3 (0+3))=some vy:=cy.ld U _;have Fy:aX h6 false 1 (.p n3 (0+4))=some ky:=cy.ld U _;have no:jL x y=true->WC C TU [] h6 n4 (sq C T7 (fq [.t k6] Q)):=by intro hu;rw[hu]at hQ;refine ζ<|γ U<|ε (Θ ⟨_,rfl,hQ _ _ zk⟩)
  by_cases u1:x.op=y.op
  case neg=>
   refine ξ<|ζ<|ρ U<|ν U (tB)<|ρ U<|ν U (wo)<|dE U U<|γ U<|μ U (by simp[u1])<|μ U (by simp[u1])<|μ U (by simp[u1])<|μ U (by simp[u1])<|μ U (by simp[u1])<|aS U (by simp[u1]) U<|γ U<|μ U (rfl)<|μ U (rfl)<|μ U (rfl)<|μ U (rfl)<|μ U (rfl)<|μ U (rfl)<|μ U (rfl)<|aS U (rfl) U<|γ U<|μ U (rfl)<|μ U (rfl)<|μ U (rfl)<|μ U (rfl)<|μ U (rfl)<|μ U (rfl)<|μ U (rfl)<|aS U (rfl) U<|ε ?_;exact an U U<|Γ (no (by simp[jL,u1])) trivial
  by_cases u2:x.sort=y.sort
  case neg=>
   refine ξ<|ζ<|ρ U<|ν U (tB)<|ρ U<|ν U (wo)<|dE U U<|γ U<|κ U (by simp[u1])<|ρ U<|κ U (by simp[u1])<|ν U (zm)<|κ U (by simp[u1])<|ρ U<|κ U (by simp[u1])<|ν U (zp)<|κ U (by simp[u1])<|iP U U<|aK U (by simp[u1]) U<|γ U<|μ U (by simp[u2])<|μ U (by simp[u2])<|μ U (by simp[u2])<|μ U (by simp[u2])<|μ U (by simp[u2])<|μ U (by simp[u2])<|μ U (by simp[u2])<|aS U (by simp[u2]) U<|γ U<|μ U (rfl)<|μ U (rfl)<|μ U (rfl)<|μ U (rfl)<|μ U (rfl)<|μ U (rfl)<|μ U (rfl)<|aS U (rfl) U<|ε ?_;exact an U U<|Γ (no (by simp[jL,u2])) trivial
  by_cases u3:x.kids.length=y.kids.length
  case neg=>
   refine ξ<|ζ<|ρ U<|ν U (tB)<|ρ U<|ν U (wo)<|dE U U<|γ U<|κ U (by simp[u1])<|ρ U<|κ U (by simp[u1])<|ν U (zm)<|κ U (by simp[u1])<|ρ U<|κ U (by simp[u1])<|ν U (zp)<|κ U (by simp[u1])<|iP U U<|aK U (by simp[u1]) U<|γ U<|κ U (by simp[u2])<|ρ U<|κ U (by simp[u2])<|ν U (Fx)<|κ U (by simp[u2])<|az U (ix6)<|κ U (by simp[u2])<|ρ U<|κ U (by simp[u2])<|ν U (Fy)<|κ U (by simp[u2])<|az U (iy6)<|κ U (by simp[u2])<|dE U U<|aK U (by simp[u2]) U<|γ U<|μ U (by simp<;>omega)<|μ U (by simp<;>omega)<|μ U (by simp<;>omega)<|μ U (by simp<;>omega)<|μ U (by simp<;>omega)<|μ U (by simp<;>omega)<|μ U (by simp<;>omega)<|aS U (by simp<;>omega) U<|ε ?_;exact an U U<|Γ (no (by simp[jL,u3])) trivial
  refine ξ<|ζ<|ρ U<|ν U (tB)<|ρ U<|ν U (wo)<|dE U U<|γ U<|κ U (by simp[u1])<|ρ U<|κ U (by simp[u1])<|ν U (zm)<|κ U (by simp[u1])<|ρ U<|κ U (by simp[u1])<|ν U (zp)<|κ U (by simp[u1])<|iP U U<|aK U (by simp[u1]) U<|γ U<|κ U (by simp[u2])<|ρ U<|κ U (by simp[u2])<|ν U (Fx)<|κ U (by simp[u2])<|az U (ix6)<|κ U (by simp[u2])<|ρ U<|κ U (by simp[u2])<|ν U (Fy)<|κ U (by simp[u2])<|az U (iy6)<|κ U (by simp[u2])<|dE U U<|aK U (by simp[u2]) U<|γ U<|κ U (by simp<;>omega)<|ρ U<|κ U (by simp<;>omega)<|ν U (Ni)<|κ U (by simp<;>omega)<|az U (OM)<|κ U (by simp<;>omega)<|ρ U<|κ U (by simp<;>omega)<|ν U (Nj)<|κ U (by simp<;>omega)<|az U (YN)<|κ U (by simp<;>omega)<|dE U U<|aK U (by simp<;>omega) U<|ε ?_;by_cases u4:x.vars.length=y.vars.length
  case neg=>
   exact an U (by simp<;>omega)<|Γ (no (by simp[jL,u4])) trivial
  refine ay U (by simp<;>omega)<|ae ?_;have hu:jL x y=false:=by simp[jL,u1,u2,u3,u4]
  rw[hu]at hQ;simp only[mC,if_false]at hQ;have YO:=hl.ext zk;have rest:(if x.op=3 then kN x.name y.name l.reverse else none)=none->WC C T6 [(k0,ta),(X.k1,tb),(X.k2,vl),(k7,.p n2 0),(k8,.p n3 0)] h6 n4 (fq [.t k6] Q):=by
   intro hU;rw[hU]at hQ;simp only at hQ;refine ξ<|ζ<|ρ U<|ν U (Jy)<|ρ U<|ν U (Jz)<|iP U U<|ε ?_;by_cases ka:x.name=y.name
   case neg=>
    refine an U (by simp[ka]) ?_;rw[Ξ ka]at hQ;refine ζ<|γ U<|ε (Θ ⟨_,rfl,hQ _ _ zk⟩)
   refine ay U (by simp[ka])<|ae ?_;rw[au ka]at hQ;refine ζ<|lu U <| λh7 n7 xA a7 e7=>γ U<|Wl U (φ.whole (len:=0) (by omega) a7 rfl) U (YO.ext e7) (by omega) (by omega) (by omega) <| λv8 h8 n8 o8 e8 p8=>γ U<|ε ?_;have e68:=e7.trans e8;refine ξ<|ζ<|γ U<|ε ?_;have JA:=Wo u4;refine aC<|Γ (ahw (h0:=h6) (n0:=n4) (v0:=ta) (v1:=tb) (l:=l) OM YN u4 sd (by omega) cx cy ?_ ?_ _ 0 v8 h8 n8 rfl (by omega) (by simp) e68 (by simpa[iX]using o8) (p8.imp id λh=>by rcases h with h | h<;>rw[h]<;>omega)) ⟨rfl,rfl,rfl,rfl,rfl,rfl,trivial⟩
   ·intro h9 n9 E9 e9 xB g9;refine⟨.b false,by show lW [.t k6] _ _=_;simp only[lW,rA,uD,g9],?_⟩;have:=hQ h9 n9 (zk.trans e9);rw[xB]at this;exact this
   ·intro vi h9 n9 E9 e9 xB o9 s9;refine dQ s9 ?_;rw[xB,au rfl]at hQ;have JB:=zk.trans e9;have iB:ep h9 n9 vi (l++iX x.vars y.vars):=by
     have:=o9.sl;unfold ep;rw[oi,JA];exact this
    refine ζ<|γ U<|ak U U<|w87 hC ((show dA h n ta a from⟨ma,tma⟩).ext JB) ra.bd pa ra.ord <| λvA kC eT oT lA=>γ U<|ak U U<|w87 hC ((show dA h n tb b from⟨mb,tmb⟩).ext (JB.trans oT)) rb.bd pb rb.ord <| λvB mN tA uf lB=>γ U<|γ U<|ε ?_;refine ξ<|ζ<|γ U<|ε ?_;refine aC<|Γ (ahz (h0:=mN) (n0:=tA) hC (m:=m) (l:=l++iX x.vars y.vars) (yM.ext lA uf) lB (by omega) (by omega) ((iB.ext oT).ext uf) ?_ ?_ _ 0 mN tA rfl (by omega) (by simp) (Ext.refl _ _)) ⟨rfl,rfl,rfl,rfl,trivial⟩
    ·intro j g1 g2 h n ta tb Q i1 i2 i3 hq;exact ih _ _ _ _ _ _ _ _ _ (by have:=(hAr j g1).2;omega) (hAr j g1).1 (hBr j g2).1 i1 i2 i3 (by simp only[oi];omega) hq
    ·intro jO AW iU;exact hQ _ _ (((JB.trans oT).trans uf).trans iU)
  refine ξ<|ζ<|ρ U<|ν U (tB)<|bm U U<|ε ?_;by_cases h3:x.op=3
  ·refine an U (by simp[h3]) ?_;refine ζ<|γ U<|az U (YO)<|iz U U ⟨by omega,by omega⟩<|γ U<|ε ?_;refine aC<|Γ (ahv (v0:=ta) (v1:=tb) YO (by omega) cx cy ?_ ?_ l.length (χ _) (by rw[gM])) ⟨rfl,rfl,rfl,rfl,rfl,rfl,trivial⟩
   ·intro r E' g1 g2;refine⟨.b r,by show lW [.t k6] _ _=_;simp only[lW,rA,uD,g2],?_⟩;have:=hQ _ _ zk;rw[au h3,g1]at this;exact this
   ·intro g1 E' s1;exact dQ s1 (rest (by rw[au h3];exact g1))
  ·refine ay U (by simp[h3])<|ae ?_;exact Γ (rest (by rw[Ξ h3])) ⟨rfl,rfl,rfl,rfl,rfl,trivial⟩
theorem w8(hC:Cd C){ta tb:V}{a b:List Nd}(ba:Bd a)(bb:Bd b)(kX:dA h n ta a)(lO:dA h n tb b)(ra:eH a=0->Rt a)(rb:eH b=0->Rt b)(Gv:eH a=0->a.length<=2000)
 (hQ:∀h' n' r e,Ext h n h' n'->e=gQ [eH a,eH b]->(e=0->r=mZ a.length a b [])->(e≠0->r=false)->Q (.u [.b r,.i .i64 e]) h' n'):τ C (.f 8 [] []) [ta,tb] h n Q:=by
 refine τ.go hC.f8 U ?_;refine ζ<|γ U<|γ U<|ε ?_;refine ξ<|ζ<|γ U<|ak U U<|w31 hC ba kX <| λh1 n1 e1=>γ U<|ak U U<|w31 hC bb (lO.ext e1) <| λh2 n2 e2=>lu U <| λh3 n3 og a3 e3=>ak U U<|Gh hC.f30 (l:=[eH a,eH b]) (φ.whole (len:=2) (by omega) a3 rfl) (by simp)<|γ U<|ε ?_;have Dm:=(e1.trans e2).trans e3;generalize he:gQ [eH a,eH b]=e at*;refine ζ<|γ U<|dE U U<|ε ?_;by_cases h0:e=0
 ·subst h0;refine ay U U<|ae ?_;rw[yK]at he;have fa:eH a=0:=by
   by_cases h:eH a=0
   ·exact h
   ·rw[au h]at he;exact he
  have fb:eH b=0:=by rw[Ξ (by simp[fa])]at he;exact he
  have:=Gv fa;refine ζ<|γ U<|γ U<|ak U U<|w32 hC a.length a b _ _ _ [] _ _ _ (χ _) (ra fa) (rb fb) (kX.ext Dm) (lO.ext Dm) (φ.ns _ _ _) (by simp;omega) <| λh4 n4 e4=>γ U<|γ U<|ε ?_;exact Θ ⟨_,rfl,hQ _ _ _ _ (Dm.trans e4) U (λ_=>rfl) (λh=>absurd rfl h)⟩
 ·refine an U (by simp[h0]) ?_;refine ζ<|γ U<|γ U<|γ U<|ε ?_;exact Θ ⟨_,rfl,hQ _ _ _ _ Dm rfl (λh=>absurd h h0) (λ_=>rfl)⟩
end
end Go.Ev.X
namespace Go.Ev.X
open Go Go.Ev
attribute [local irreducible] WC WO WD SO τ
section
variable {C:Nat->Option bN}{h:Hf}{n:K}{Q:V->Hf->K->Prop}
abbrev ahI:S:=[77,97,112,60]
def CD(s:S):Nat->Nat->Nat->Nat
 | 0,_,c=>c
 | m+1,i,c=>if i+4<=s.length then CD s m (i+1) (if (s.drop i).take 4=ahI then c+1 else c) else c
def calm(s:S):Bool:=decide (CD s (s.length+1) 0 0<=4)
theorem ahJ{s:S}(hl:s.length<10000000):∀(m i c:Nat),s.length+1 - i=m->i<=s.length+1->c<=i->Q (.b (decide (CD s m i c<=4))) h n->WC C RH [(k0,st s),(k3,.i .i64 (c:Nat)),(k4,.i .i64 (i:Nat))] h n (blk 0 (sq C RI (fq [.t k2] Q))):=by
 intro m
 induction m with
 | zero=>
  intro i c hm hi hc hQ;refine aJ ?_;refine ξ<|ζ<|γ U<|cU U U ⟨by omega,by omega⟩<|γ U<|cH U<|pA U U<|ε ?_;refine ay U (by simp<;>omega)<|bM ?_;have e:decide ((c:Int)<=4)=decide (c<=4):=decide_eq_decide.2 (by omega);rw[CD,←e]at hQ;refine ζ<|γ U<|pA U U<|γ U<|ε (Θ ⟨_,rfl,hQ⟩)
 | succ m ih=>
  intro i c hm hi hc hQ;refine aJ ?_;refine ξ<|ζ<|γ U<|cU U U ⟨by omega,by omega⟩<|γ U<|cH U<|pA U U<|ε ?_;by_cases h4:i+4<=s.length
  ·rw[CD,au h4]at hQ;refine an U (by simp<;>omega)<|ae ?_;refine ξ<|aC<|ζ<|γ U<|γ U<|γ U<|lz U U (show(i:Int)+4=((i+4:Nat):Int) from rfl) ⟨by omega,by omega⟩<|Al U U U ((show i<=i+4 by omega)) (h4)<|en (b:=[77,97,112,60]) U U<|ε ?_;have e:i+4 - i=4:=by omega
   rw[e];refine cB U (λhx=>?_) (λhx=>ae ?_)
   ·simp only[bA]at hx;rw[au hx]at hQ;refine aL<|γ U<|cU U U ⟨by omega,by omega⟩<|γ U<|ε ?_;refine aL<|γ U<|cU U U ⟨by omega,by omega⟩<|γ U<|ε ?_;exact Γ (ih (i+1) (c+1) (by omega) (by omega) (by omega) hQ) ⟨rfl,rfl,rfl,trivial⟩
   ·simp only[cV]at hx;rw[Ξ hx]at hQ;refine aL<|γ U<|cU U U ⟨by omega,by omega⟩<|γ U<|ε ?_;exact Γ (ih (i+1) c (by omega) (by omega) (by omega) hQ) ⟨rfl,rfl,rfl,trivial⟩
  ·rw[CD,Ξ h4]at hQ;refine ay U (by simp<;>omega)<|bM ?_;have e:decide ((c:Int)<=4)=decide (c<=4):=decide_eq_decide.2 (by omega);rw[←e]at hQ;refine ζ<|γ U<|pA U U<|γ U<|ε (Θ ⟨_,rfl,hQ⟩)
theorem Fz(hC:Cd C){s:S}(hl:s.length<10000000)(hQ:Q (.b (calm s)) h n):τ C (.f 23 [] []) [st s] h n Q:=by refine τ.go hC.f23 U ?_;refine ζ<|γ U<|ε ?_;refine ζ<|γ U<|ε ?_;refine ξ<|ζ<|γ U<|ε ?_;exact aC<|Γ (ahJ hl _ 0 0 rfl (by omega) (by omega) hQ) ⟨rfl,rfl,rfl,trivial⟩
def xi(v:S×S):Bool:=!decide (200<v.1.length)&&(!decide (200<v.2.length)&&calm v.2)
def IF(l:List (S×S)):Bool:=l.all xi&&decide (l.length<=8)
theorem ahK(hC:Cd C){v:V}{l:List (S×S)}(hv:ep h n v l)(hlen:l.length<10000000)(AQ:∀v∈l,v.1.length<10000000/\v.2.length<10000000):∀(m i:Nat),l.length - i=m->i<=l.length->Q (.b ((l.drop i).all xi&&decide (l.length<=8))) h n->WC C RM [(k0,v),(k3,.i .i64 (i:Nat))] h n (blk 0 (sq C Lo (fq [.t k2] Q))):=by
 intro m
 induction m with
 | zero=>
  intro i hm hi hQ;have:i=l.length:=by omega
  subst this;refine aJ ?_;refine ξ<|ζ<|γ U<|γ U<|az U (hv)<|aO U U<|ε ?_;refine ay U (by simp)<|bM ?_;have e:decide (l.length<=8)=decide ((l.length:Int)<=8):=by simp;omega
  rw[gY,List.all_nil,wz,e]at hQ;refine ζ<|γ U<|az U (hv)<|pA U U<|γ U<|ε (Θ ⟨_,rfl,hQ⟩)
 | succ m ih=>
  intro i hm hi hQ;have ω:i<l.length:=by omega
  rw[fC ω,List.all_cons]at hQ;have hn:=AQ _ (fW ω);have g1:=hv.name ω 1;have g2:=hv.sort ω 1;generalize hp:l[i]=p at*;refine aJ ?_;refine ξ<|ζ<|γ U<|γ U<|az U (hv)<|aO U U<|ε ?_;refine an U (by simp<;>omega)<|ae<|ξ<|aC ?_;have no:xi p=false->WC C RJ [] h n (blk 1 (sq C RK (sq C (.loop RL) (blk 0 (sq C Lo (fq [.t k2] Q)))))):=by intro hs;rw[hs]at hQ;refine ζ<|γ U<|ε (Θ ⟨_,rfl,hQ⟩)
  by_cases h1:200<p.1.length
  ·refine ζ<|γ U<|γ U<|bj U U (hv) (ω)<|ρ U<|ν U (g1)<|cH U<|cS U U<|γ U<|μ U (by simp<;>omega)<|μ U (by simp<;>omega)<|μ U (by simp<;>omega)<|μ U (by simp<;>omega)<|μ U (by simp<;>omega)<|μ U (by simp<;>omega)<|μ U (by simp<;>omega)<|aS U (by simp<;>omega) U<|γ U<|μ U (rfl)<|μ U (rfl)<|μ U (rfl)<|μ U (rfl)<|μ U (rfl)<|μ U (rfl)<|μ U (rfl)<|aS U (rfl) U<|ε ?_;exact an U U<|Γ (no (by simp[xi,h1])) trivial
  by_cases h2:200<p.2.length
  ·refine ζ<|γ U<|γ U<|bj U U (hv) (ω)<|ρ U<|ν U (g1)<|cH U<|cS U U<|γ U<|κ U (by simp<;>omega)<|γ U<|κ U (by simp<;>omega)<|γ U<|κ U (by simp<;>omega)<|bj U U (hv) (ω)<|κ U (by simp<;>omega)<|ρ U<|κ U (by simp<;>omega)<|ν U (g2)<|κ U (by simp<;>omega)<|cH U<|κ U (by simp<;>omega)<|cS U U<|aK U (by simp<;>omega) U<|γ U<|μ U (by simp<;>omega)<|μ U (by simp<;>omega)<|μ U (by simp<;>omega)<|μ U (by simp<;>omega)<|μ U (by simp<;>omega)<|μ U (by simp<;>omega)<|μ U (by simp<;>omega)<|aS U (by simp<;>omega) U<|ε ?_;exact an U U<|Γ (no (by simp[xi,h2])) trivial
  refine ζ<|γ U<|γ U<|bj U U (hv) (ω)<|ρ U<|ν U (g1)<|cH U<|cS U U<|γ U<|κ U (by simp<;>omega)<|γ U<|κ U (by simp<;>omega)<|γ U<|κ U (by simp<;>omega)<|bj U U (hv) (ω)<|κ U (by simp<;>omega)<|ρ U<|κ U (by simp<;>omega)<|ν U (g2)<|κ U (by simp<;>omega)<|cH U<|κ U (by simp<;>omega)<|cS U U<|aK U (by simp<;>omega) U<|γ U<|κ U (by simp<;>omega)<|γ U<|κ U (by simp<;>omega)<|γ U<|κ U (by simp<;>omega)<|bj U U (hv) (ω)<|κ U (by simp<;>omega)<|ρ U<|κ U (by simp<;>omega)<|ν U (g2)<|κ U (by simp<;>omega)<|ak U U<|Fz hC hn.2<|κ U (by simp<;>omega)<|di U<|aK U (by simp<;>omega) U<|ε ?_;cases hc:calm p.2 with
  | false=>exact an U U<|Γ (no (by simp[xi,hc])) trivial
  | true=>
   refine ay U U<|ae ?_;have hs:xi p=true:=by simp[xi,hc];omega
   rw[hs,wz]at hQ;refine aL<|γ U<|cU U U ⟨by omega,by omega⟩<|γ U<|ε ?_;exact Γ (ih (i+1) (by omega) (by omega) hQ) ⟨rfl,rfl,trivial⟩
theorem w24(hC:Cd C){v:V}{l:List (S×S)}(hv:ep h n v l)(hlen:l.length<10000000)(AQ:∀v∈l,v.1.length<10000000/\v.2.length<10000000)(hQ:Q (.b (IF l)) h n):τ C (.f 24 [] []) [v] h n Q:=by refine τ.go hC.f24 U ?_;refine ζ<|γ U<|ε ?_;refine ξ<|ζ<|γ U<|ε ?_;exact aC<|Γ (ahK hC hv hlen AQ _ 0 rfl (by omega) hQ) ⟨rfl,rfl,trivial⟩
structure Gz(ts:List Nd):Prop where
 len:ts.length<10000000
 pX:∀i (hi:i<ts.length),ts[i].kids.length<10000000
 nm:∀i (hi:i<ts.length),ts[i].name.length<10000000/\ts[i].sort.length<10000000
 vl:∀i (hi:i<ts.length),ts[i].vars.length<10000000
 vn:∀i (hi:i<ts.length),∀v∈ts[i].vars,v.1.length<10000000/\v.2.length<10000000
def pJ(x:Nd):Bool:=!decide (200<x.name.length)&&(!decide (200<x.sort.length)&&(calm x.name&&(calm x.sort&&(!decide (12<x.kids.length)&&IF x.vars))))
def vU(ts:List Nd):Bool:=!(decide (120<ts.length)&&!decide (ts.length=2001))&&ts.all pJ
theorem ahL(hC:Cd C){t:V}{ts:List Nd}(ht:dA h n t ts)(hb:Gz ts):∀(m i:Nat),ts.length - i=m->i<=ts.length->Q (.b ((ts.drop i).all pJ)) h n->WC C RF [(k0,t),(k3,.i .i64 (i:Nat))] h n (blk 0 (sq C Ln (fq [.t k2] Q))):=by
 intro m;obtain⟨cs,hs⟩:=ht.sl;have hlen:=hb.len
 induction m with
 | zero=>
  intro i hm hi hQ;have:i=ts.length:=by omega
  subst this;refine aJ ?_;refine ξ<|ζ<|γ U<|γ U<|az U (hs)<|aO U U<|ε ?_;refine ay U (by simp)<|bM ?_;refine ζ<|γ U<|ε (Θ ⟨_,rfl,by simpa using hQ⟩)
 | succ m ih=>
  intro i hm hi hQ;have ω:i<ts.length:=by omega
  rw[fC ω,List.all_cons]at hQ;obtain⟨vv,kv,hx⟩:=ht.node ω;have b1:=hb.nm i ω;have b2:=hb.pX i ω;have b3:=hb.vl i ω;have b4:=hb.vn i ω;have ln:=hx.name 1;have ls:=hx.sort 1;have lk:=hx.ks 1;have lv:=hx.vs 1;have ik:=hx.kids;have iv:=hx.vars;generalize hp:ts[i]=x at*;refine aJ ?_;refine ξ<|ζ<|γ U<|γ U<|az U (hs)<|aO U U<|ε ?_;refine an U (by simp<;>omega)<|ae<|ξ<|aC ?_;have no:pJ x=false->WC C RC [] h n (blk 1 (sq C RD (sq C (.loop RE) (blk 0 (sq C Ln (fq [.t k2] Q)))))):=by intro hs;rw[hs]at hQ;refine ζ<|γ U<|ε (Θ ⟨_,rfl,hQ⟩)
  by_cases g0:200<x.name.length
  ·refine ζ<|γ U<|γ U<|bj U U (hs) (ω)<|ρ U<|ν U (ln)<|cH U<|cS U U<|γ U<|μ U (by simp<;>omega)<|μ U (by simp<;>omega)<|μ U (by simp<;>omega)<|μ U (by simp<;>omega)<|μ U (by simp<;>omega)<|μ U (by simp<;>omega)<|μ U (by simp<;>omega)<|aS U (by simp<;>omega) U<|γ U<|μ U (rfl)<|μ U (rfl)<|μ U (rfl)<|μ U (rfl)<|μ U (rfl)<|μ U (rfl)<|μ U (rfl)<|aS U (rfl) U<|γ U<|μ U (rfl)<|μ U (rfl)<|μ U (rfl)<|μ U (rfl)<|μ U (rfl)<|μ U (rfl)<|μ U (rfl)<|aS U (rfl) U<|γ U<|μ U (rfl)<|μ U (rfl)<|μ U (rfl)<|μ U (rfl)<|μ U (rfl)<|μ U (rfl)<|μ U (rfl)<|aS U (rfl) U<|γ U<|μ U (rfl)<|μ U (rfl)<|μ U (rfl)<|μ U (rfl)<|μ U (rfl)<|μ U (rfl)<|μ U (rfl)<|aS U (rfl) U<|ε ?_;exact an U U<|Γ (no (by simp[pJ,g0])) trivial
  by_cases g1:200<x.sort.length
  ·refine ζ<|γ U<|γ U<|bj U U (hs) (ω)<|ρ U<|ν U (ln)<|cH U<|cS U U<|γ U<|κ U (by simp<;>omega)<|γ U<|κ U (by simp<;>omega)<|γ U<|κ U (by simp<;>omega)<|bj U U (hs) (ω)<|κ U (by simp<;>omega)<|ρ U<|κ U (by simp<;>omega)<|ν U (ls)<|κ U (by simp<;>omega)<|cH U<|κ U (by simp<;>omega)<|cS U U<|aK U (by simp<;>omega) U<|γ U<|μ U (by simp<;>omega)<|μ U (by simp<;>omega)<|μ U (by simp<;>omega)<|μ U (by simp<;>omega)<|μ U (by simp<;>omega)<|μ U (by simp<;>omega)<|μ U (by simp<;>omega)<|aS U (by simp<;>omega) U<|γ U<|μ U (rfl)<|μ U (rfl)<|μ U (rfl)<|μ U (rfl)<|μ U (rfl)<|μ U (rfl)<|μ U (rfl)<|aS U (rfl) U<|γ U<|μ U (rfl)<|μ U (rfl)<|μ U (rfl)<|μ U (rfl)<|μ U (rfl)<|μ U (rfl)<|μ U (rfl)<|aS U (rfl) U<|γ U<|μ U (rfl)<|μ U (rfl)<|μ U (rfl)<|μ U (rfl)<|μ U (rfl)<|μ U (rfl)<|μ U (rfl)<|aS U (rfl) U<|ε ?_;exact an U U<|Γ (no (by simp[pJ,g1])) trivial
  cases g2:calm x.name with
  | false=>
   refine ζ<|γ U<|γ U<|bj U U (hs) (ω)<|ρ U<|ν U (ln)<|cH U<|cS U U<|γ U<|κ U (by simp<;>omega)<|γ U<|κ U (by simp<;>omega)<|γ U<|κ U (by simp<;>omega)<|bj U U (hs) (ω)<|κ U (by simp<;>omega)<|ρ U<|κ U (by simp<;>omega)<|ν U (ls)<|κ U (by simp<;>omega)<|cH U<|κ U (by simp<;>omega)<|cS U U<|aK U (by simp<;>omega) U<|γ U<|κ U (by simp<;>omega)<|γ U<|κ U (by simp<;>omega)<|γ U<|κ U (by simp<;>omega)<|bj U U (hs) (ω)<|κ U (by simp<;>omega)<|ρ U<|κ U (by simp<;>omega)<|ν U (ln)<|κ U (by simp<;>omega)<|ak U U<|Fz hC b1.1<|κ U (by simp<;>omega)<|di U<|aK U (by simp<;>omega) U<|γ U<|μ U (by simp[g2])<|μ U (by simp[g2])<|μ U (by simp[g2])<|μ U (by simp[g2])<|μ U (by simp[g2])<|μ U (by simp[g2])<|μ U (by simp[g2])<|aS U (by simp[g2]) U<|γ U<|μ U (rfl)<|μ U (rfl)<|μ U (rfl)<|μ U (rfl)<|μ U (rfl)<|μ U (rfl)<|μ U (rfl)<|aS U (rfl) U<|γ U<|μ U (rfl)<|μ U (rfl)<|μ U (rfl)<|μ U (rfl)<|μ U (rfl)<|μ U (rfl)<|μ U (rfl)<|aS U (rfl) U<|ε ?_;exact an U U<|Γ (no (by simp[pJ,g2])) trivial
  | true=>
  cases g3:calm x.sort with
  | false=>
   refine ζ<|γ U<|γ U<|bj U U (hs) (ω)<|ρ U<|ν U (ln)<|cH U<|cS U U<|γ U<|κ U (by simp<;>omega)<|γ U<|κ U (by simp<;>omega)<|γ U<|κ U (by simp<;>omega)<|bj U U (hs) (ω)<|κ U (by simp<;>omega)<|ρ U<|κ U (by simp<;>omega)<|ν U (ls)<|κ U (by simp<;>omega)<|cH U<|κ U (by simp<;>omega)<|cS U U<|aK U (by simp<;>omega) U<|γ U<|κ U (by simp<;>omega)<|γ U<|κ U (by simp<;>omega)<|γ U<|κ U (by simp<;>omega)<|bj U U (hs) (ω)<|κ U (by simp<;>omega)<|ρ U<|κ U (by simp<;>omega)<|ν U (ln)<|κ U (by simp<;>omega)<|ak U U<|Fz hC b1.1<|κ U (by simp<;>omega)<|di U<|aK U (by simp<;>omega) U<|γ U<|κ U (by simp[g2])<|γ U<|κ U (by simp[g2])<|γ U<|κ U (by simp[g2])<|bj U U (hs) (ω)<|κ U (by simp[g2])<|ρ U<|κ U (by simp[g2])<|ν U (ls)<|κ U (by simp[g2])<|ak U U<|Fz hC b1.2<|κ U (by simp[g2])<|di U<|aK U (by simp[g2]) U<|γ U<|μ U (by simp[g3])<|μ U (by simp[g3])<|μ U (by simp[g3])<|μ U (by simp[g3])<|μ U (by simp[g3])<|μ U (by simp[g3])<|μ U (by simp[g3])<|aS U (by simp[g3]) U<|γ U<|μ U (rfl)<|μ U (rfl)<|μ U (rfl)<|μ U (rfl)<|μ U (rfl)<|μ U (rfl)<|μ U (rfl)<|aS U (rfl) U<|ε ?_;exact an U U<|Γ (no (by simp[pJ,g3])) trivial
  | true=>
  by_cases g4:12<x.kids.length
  ·refine ζ<|γ U<|γ U<|bj U U (hs) (ω)<|ρ U<|ν U (ln)<|cH U<|cS U U<|γ U<|κ U (by simp<;>omega)<|γ U<|κ U (by simp<;>omega)<|γ U<|κ U (by simp<;>omega)<|bj U U (hs) (ω)<|κ U (by simp<;>omega)<|ρ U<|κ U (by simp<;>omega)<|ν U (ls)<|κ U (by simp<;>omega)<|cH U<|κ U (by simp<;>omega)<|cS U U<|aK U (by simp<;>omega) U<|γ U<|κ U (by simp<;>omega)<|γ U<|κ U (by simp<;>omega)<|γ U<|κ U (by simp<;>omega)<|bj U U (hs) (ω)<|κ U (by simp<;>omega)<|ρ U<|κ U (by simp<;>omega)<|ν U (ln)<|κ U (by simp<;>omega)<|ak U U<|Fz hC b1.1<|κ U (by simp<;>omega)<|di U<|aK U (by simp<;>omega) U<|γ U<|κ U (by simp[g2])<|γ U<|κ U (by simp[g2])<|γ U<|κ U (by simp[g2])<|bj U U (hs) (ω)<|κ U (by simp[g2])<|ρ U<|κ U (by simp[g2])<|ν U (ls)<|κ U (by simp[g2])<|ak U U<|Fz hC b1.2<|κ U (by simp[g2])<|di U<|aK U (by simp[g2]) U<|γ U<|κ U (by simp[g3])<|γ U<|κ U (by simp[g3])<|γ U<|κ U (by simp[g3])<|bj U U (hs) (ω)<|κ U (by simp[g3])<|ρ U<|κ U (by simp[g3])<|ν U (lk)<|κ U (by simp[g3])<|az U (ik)<|κ U (by simp[g3])<|cS U U<|aK U (by simp[g3]) U<|γ U<|μ U (by simp<;>omega)<|μ U (by simp<;>omega)<|μ U (by simp<;>omega)<|μ U (by simp<;>omega)<|μ U (by simp<;>omega)<|μ U (by simp<;>omega)<|μ U (by simp<;>omega)<|aS U (by simp<;>omega) U<|ε ?_;exact an U U<|Γ (no (by simp[pJ,g4])) trivial
  refine ζ<|γ U<|γ U<|bj U U (hs) (ω)<|ρ U<|ν U (ln)<|cH U<|cS U U<|γ U<|κ U (by simp<;>omega)<|γ U<|κ U (by simp<;>omega)<|γ U<|κ U (by simp<;>omega)<|bj U U (hs) (ω)<|κ U (by simp<;>omega)<|ρ U<|κ U (by simp<;>omega)<|ν U (ls)<|κ U (by simp<;>omega)<|cH U<|κ U (by simp<;>omega)<|cS U U<|aK U (by simp<;>omega) U<|γ U<|κ U (by simp<;>omega)<|γ U<|κ U (by simp<;>omega)<|γ U<|κ U (by simp<;>omega)<|bj U U (hs) (ω)<|κ U (by simp<;>omega)<|ρ U<|κ U (by simp<;>omega)<|ν U (ln)<|κ U (by simp<;>omega)<|ak U U<|Fz hC b1.1<|κ U (by simp<;>omega)<|di U<|aK U (by simp<;>omega) U<|γ U<|κ U (by simp[g2])<|γ U<|κ U (by simp[g2])<|γ U<|κ U (by simp[g2])<|bj U U (hs) (ω)<|κ U (by simp[g2])<|ρ U<|κ U (by simp[g2])<|ν U (ls)<|κ U (by simp[g2])<|ak U U<|Fz hC b1.2<|κ U (by simp[g2])<|di U<|aK U (by simp[g2]) U<|γ U<|κ U (by simp[g3])<|γ U<|κ U (by simp[g3])<|γ U<|κ U (by simp[g3])<|bj U U (hs) (ω)<|κ U (by simp[g3])<|ρ U<|κ U (by simp[g3])<|ν U (lk)<|κ U (by simp[g3])<|az U (ik)<|κ U (by simp[g3])<|cS U U<|aK U (by simp[g3]) U<|γ U<|κ U (by simp<;>omega)<|γ U<|κ U (by simp<;>omega)<|γ U<|κ U (by simp<;>omega)<|bj U U (hs) (ω)<|κ U (by simp<;>omega)<|ρ U<|κ U (by simp<;>omega)<|ν U (lv)<|κ U (by simp<;>omega)<|ak U U<|w24 hC iv b3 b4<|κ U (by simp<;>omega)<|di U<|aK U (by simp<;>omega) U<|ε ?_;cases g5:IF x.vars with
  | false=>exact an U U<|Γ (no (by simp[pJ,g5])) trivial
  | true=>
   refine ay U U<|ae ?_;have hsx:pJ x=true:=by simp[pJ,g2,g3,g5];omega
   rw[hsx,wz]at hQ;refine aL<|γ U<|cU U U ⟨by omega,by omega⟩<|γ U<|ε ?_;exact Γ (ih (i+1) (by omega) (by omega) hQ) ⟨rfl,rfl,trivial⟩
theorem w5(hC:Cd C){t:V}{ts:List Nd}(ht:dA h n t ts)(hb:Gz ts)(hQ:Q (.b (vU ts)) h n):τ C (.f 5 [] []) [t] h n Q:=by
 refine τ.go hC.f5 U ?_;obtain⟨cs,hs⟩:=ht.sl;have hlen:=hb.len;refine ζ<|γ U<|ε ?_;have go:vU ts=ts.all pJ->WC C RG [(k0,t)] h n (fq [.t k2] Q):=by intro he;rw[he]at hQ;refine ξ<|ζ<|γ U<|ε ?_;exact aC<|Γ (ahL hC ht hb _ 0 rfl (by omega) hQ) ⟨rfl,rfl,trivial⟩
 by_cases h1:120<ts.length
 ·refine ξ<|ζ<|γ U<|az U (hs)<|cS U U<|γ U<|κ U (by simp<;>omega)<|γ U<|κ U (by simp<;>omega)<|az U (hs)<|κ U (by simp<;>omega)<|dE U U<|aS U (by simp<;>omega) U<|ε ?_;by_cases h2:ts.length=2001
  ·exact ay U (by simp[h2])<|ae<|Γ (go (by simp[vU,h2])) ⟨rfl,trivial⟩
  ·refine an U (by simp<;>omega) ?_;have e:vU ts=false:=by simp[vU,h1,h2]
   rw[e]at hQ;refine ζ<|γ U<|ε (Θ ⟨_,rfl,hQ⟩)
 ·refine ξ<|ζ<|γ U<|az U (hs)<|cS U U<|γ U<|μ U (by simp<;>omega)<|μ U (by simp<;>omega)<|μ U (by simp<;>omega)<|aK U (by simp<;>omega) U<|ε ?_;exact ay U U<|ae<|Γ (go (by simp[vU,h1])) ⟨rfl,trivial⟩
end
section
variable {C:Nat->Option bN}{h:Hf}{n:K}{Q:V->Hf->K->Prop}
theorem w28(hC:Cd C){v:V}{l:List (S×S)}(hv:ep h n v l)(hl:l.length<1000000)(hQ:∀v' h' n',ig h' 40 2 v' l.length (lh l)->Ext h n h' n'->(v'=.ns\/n.num<=v'.blk.num/\v'.blk.num<n'.num)->Q v' h' n'):τ C (.f 28 [] []) [v] h n Q:=by refine τ.go hC.f28 U ?_;refine ζ<|γ U<|ε ?_;refine ζ<|γ U<|HO U U (hv) (by omega) (by omega) (by omega) <| λv3 h3 n3 o3 x3 p3=>γ U<|ε (Θ ⟨_,rfl,hQ v3 h3 n3 o3 x3 p3⟩)
theorem w29(hC:Cd C){v:V}{l:List Int}(hv:eL h n .i64 v l)(hl:l.length<1000000)(hQ:∀v' h' n',ig h' 3 1 v' l.length (ij .i64 l)->Ext h n h' n'->(v'=.ns\/n.num<=v'.blk.num/\v'.blk.num<n'.num)->Q v' h' n'):τ C (.f 29 [] []) [v] h n Q:=by refine τ.go hC.f29 U ?_;refine ζ<|γ U<|ε ?_;refine ζ<|γ U<|HO U U (hv) (by omega) (by omega) (by omega) <| λv3 h3 n3 o3 x3 p3=>γ U<|ε (Θ ⟨_,rfl,hQ v3 h3 n3 o3 x3 p3⟩)
section
variable {h0:Hf}{n0:K}{t:V}{ts:List Nd}
theorem ahM(hC:Cd C)(ht:dA h0 n0 t ts)(hb:Bd ts){Q1:Ex->Env->Hf->K->Prop}
 (hQ:∀vo m h n E',Ext h0 n0 h n->TO h n0 n vo ts m->dK [(k3,vo)] E'->Q1 .normal E' h n):
 ∀(r i:Nat) (vo:V) (m:List (V×V)) (h:Hf) (n:K),ts.length - i=r->i<=ts.length->TO h n0 n vo (ts.take i) m->Gr h0 n0 h n 69 5 vo i (eZ (ts.take i) m)->WC C RN [(k0,t),(k3,vo),(k4,.i .i64 (i:Nat))] h n (blk 0 Q1):=by
 have hlen:=hb.len;intro r
 induction r with
 | zero=>
  intro i vo m h n hr hi iW hg;have:i=ts.length:=by omega
  subst this;obtain⟨cs,hs⟩:=(ht.ext hg.ext).sl;rw[gM]at iW;refine aJ ?_;refine ξ<|ζ<|γ U<|γ U<|az U (hs)<|aO U U<|ε ?_;exact ay U (by simp)<|bM (hQ vo m h n _ hg.ext iW ⟨rfl,trivial⟩)
 | succ r ih=>
  intro i vo m h n hr hi iW hg;have ω:i<ts.length:=by omega
  have wg:=ht.ext hg.ext;obtain⟨cs,hs⟩:=wg.sl;obtain⟨vv,kv,hx⟩:=wg.node ω;have gK:=kc ts[i] (φ.one hx.vars) (φ.one hx.kids);have fm:=hb.pX i ω;have sd:=hb.vl i ω;refine aJ ?_;refine ξ<|ζ<|γ U<|γ U<|az U (hs)<|aO U U<|ε ?_;refine an U (by simp<;>omega)<|ae ?_;refine ξ<|aC<|ζ<|γ U<|γ U<|bj U U (hs) (ω)<|ν U (hx.all)<|du <| λh1 n1 dS a1 e1=>bL U U (a1) (dW rfl rfl gK) <| λh2 a2 b2=>ε ?_;have x2:Ext h n h2 n1:=e1.aj b2 (χ _);have lM:=hx.vars.ext x2;have nw:=hx.kids.ext x2;have ld3:aX h2 false 1 (.p n (0+3))=some vv:=dL a2 rfl _;have YP:∀{h' n'},Ext h2 n1 h' n'->aX h' false 1 (.p n (0+4))=some kv:=λe=>dL ((e.2 _ (by omega)).trans a2) U _;have ahN:=φ.below lM (χ _);have ahO:∀{n':K},n1.num<=n'.num->bB n' kv=true:=λe=>φ.below nw e;refine dh<|bX U<|aD U (ld3) (ahN) (φ.da lM)<|cj U U<|w28 hC lM (by omega) <| λv3 h3 n3 o3 x3 p3=>bX U<|aD U (YP x3) (ahO x3.1) (φ.da nw)<|cj U U<|w29 hC (nw.ext x3) (by omega) <| λv5 h5 n5 o5 x5 p5=>bX U<|fV U U ((x5.2 _ (by have:=x3.1;omega)).trans ((x3.2 _ (by omega)).trans a2)) (Wd (o3.cells) (o3.one)) <| λh4 a4 b4=>bX U<|fV U U (a4) (We o5.cells o5.one) <| λh6 a6 b6=>cG (⟨⟨Ω (by simp[Nat.testBit]),Ω (by simp[Nat.testBit]),Ω (by simp[Nat.testBit]),dj (YP (Ext.refl _ _)) (YP x3),trivial⟩,⟨Ω (by simp[Nat.testBit]),Ω (by simp[Nat.testBit]),Ω (by simp[Nat.testBit]),Ω (by simp[Nat.testBit]),trivial⟩,trivial⟩) ?_;have x3:Ext h2 n1 h3 n3:=x3;have x5:Ext h3 n3 h5 n5:=x5;have ny:de n h5 h4:=b4;have qY:de n h4 h6:=b6;have og:=x3.1;have xz:=x5.1;have x6:Ext h n h6 n5:=(((x2.trans x3).trans x5).aj ny (χ _)).aj qY (χ _);have Gs:h6 n=some (.c (cR ts[i] v3 v5) 69 0):=a6;have o3:ig h3 40 2 v3 ts[i].vars.length (lh ts[i].vars):=o3;have o5:ig h5 3 1 v5 ts[i].kids.length (ij .i64 ts[i].kids):=o5;have YC:ig h6 40 2 v3 ts[i].vars.length (lh ts[i].vars):=(((o3.ext (p3.imp id λh=>x5.2 _ (by omega))).ext (p3.imp id λh=>ny _ (by omega))).ext (p3.imp id λh=>qY _ (by omega)));have MZ:ig h6 3 1 v5 ts[i].kids.length (ij .i64 ts[i].kids):=(o5.ext (p5.imp id λh=>ny _ (by omega))).ext (p5.imp id λh=>qY _ (by omega));have Ft:=kc ts[i] o3.one o5.one;have g6:=hg.on x6;refine aL<|γ U<|ν U (bQ Gs (rB rfl))<|lu (Wf rfl Ft rfl) <| λh7 n7 xA a7 x7=>yr U ((g6.on x7).own) U (φ.whole (len:=1) (by omega) a7 rfl) (by omega) (by omega) (by omega) (by omega) (Ft) ((g6.on x7).lt) <| λv8 h8 n8 o8 q8 Gp s8=>γ U<|ε ?_;have g8:=(g6.on x7).app o8 q8 Gp s8;have YD:Ext h n h7 n7:=x6.trans x7;have Ks:m.length=i:=by rw[iW.rows.len];simp;omega
  have M0:ts.take (i+1)=ts.take i++[ts[i]]:=pg ω;have YE:eZ (ts.take i) m++cR ts[i] v3 v5=eZ (ts.take (i+1)) (m++[(v3,v5)]):=by rw[M0,Hy (by rw[Ks];simp;omega)];rfl
  rw[YE]at g8;have xA:=x7.1;have agZ:=hg.ext.1;have ag0:n.num<n1.num:=by omega
  have Gb:∀b:K,b.num<n.num->(vo=.ns\/b.num≠vo.blk.num)->h8 b=h b:=λb hb hv=>by rw[s8 b (by omega) hv,YD.2 b hb]
  have l3:v3=.ns\/v3.blk.num<n3.num:=p3.imp id And.right;have l5:v5=.ns\/v5.blk.num<n5.num:=p5.imp id And.right;have M3:v3=.ns\/(vo=.ns\/v3.blk.num≠vo.blk.num):=p3.imp id λh=>hg.lt.imp id λg=>by omega
  have M4:v5=.ns\/(vo=.ns\/v5.blk.num≠vo.blk.num):=p5.imp id λh=>hg.lt.imp id λg=>by omega
  have f3:v3=.ns\/h8 v3.blk=h6 v3.blk:=by
   rcases l3 with l | l
   ·exact Or.inl l
   ·rcases M3 with g | g
    ·exact Or.inl g
    ·exact Or.inr (by rw[s8 _ (by omega) g,x7.2 _ (by omega)];rfl)
  have f5:v5=.ns\/h8 v5.blk=h6 v5.blk:=by
   rcases l5 with l | l
   ·exact Or.inl l
   ·rcases M4 with g | g
    ·exact Or.inl g
    ·exact Or.inr (by rw[s8 _ (by omega) g,x7.2 _ (by omega)];rfl)
  have YF:v5=.ns\/n0.num<=v5.blk.num:=p5.imp id λh=>by omega
  have YG:v3=.ns\/n0.num<=v3.blk.num:=p3.imp id λh=>by omega
  have k8:v8=.ns\/n5.num<=v8.blk.num:=Or.inr (by rw[q8];omega);have M5:v3=.ns\/v3.blk.num<n5.num:=l3.imp id λh=>by omega
  have g5:v5=.ns\/n.num<=v5.blk.num:=p5.imp id λh=>by omega
  have g3:v3=.ns\/n.num<=v3.blk.num:=p3.imp id λh=>by omega
  have ro:RO h8 n0 n8 v8 ts[i] (v3,v5):=by
   refine⟨φ.AU (YC.sl (n:=n5) M5) f3 (by omega),φ.AU (MZ.sl (n:=n5) l5) f5 (by omega),?_,YF,YG,mB.of l3 (p5.imp id And.left),mB.of M5 k8,mB.of l5 k8⟩;rcases MZ.su with g | g
   ·exact Or.inl g
   ·rcases f5 with f | f
    ·exact Or.inl f
    ·exact Or.inr ⟨g.1,by rw[f];exact g.2⟩
  refine aL<|γ U<|cU U U ⟨by omega,by omega⟩<|γ U<|ε ?_;refine Γ (ih (i+1) v8 (m++[(v3,v5)]) h8 n8 (by omega) (by omega) ⟨?_,?_,?_,Or.inr (by rw[q8];omega)⟩ g8) ⟨rfl,rfl,rfl,trivial⟩
  ·have:=g8.sl;have el:(ts.take (i+1)).length=i+1:=by simp;omega
   rw[el];exact this
  ·rw[M0];exact kM.app (kM.mono (λx p a=>a.step Gb (by omega) (by rw[q8];omega)) iW.rows) ⟨ro,trivial⟩
  ·rw[List.pairwise_append];refine⟨iW.pw,List.pairwise_singleton _ _,?_⟩;intro p hp q hq;rw[zB]at hq;subst hq;obtain⟨j,hj,rfl⟩:=uu hp;have hr:=iW.rows.get j (by rw[←iW.rows.len];exact hj) hj;have b1:=φ.vJ hr.b;have b2:=φ.vJ hr.k;exact⟨mB.of b2 g5,mB.of b1 g5,mB.of b2 g3⟩
end
theorem w7(hC:Cd C){t:V}{ts:List Nd}(ht:dA h n t ts)(hb:Bd ts)(hQ:∀vo h' n',Ext h n h' n'->dA h' n' vo ts->Q vo h' n'):τ C (.f 7 [] []) [t] h n Q:=by refine τ.go hC.f7 U ?_;refine ζ<|γ U<|ε ?_;refine ζ<|γ U<|ε ?_;refine ξ<|ζ<|γ U<|ε ?_;refine aC<|Γ (ahM hC ht hb ?_ _ 0 .ns [] h n rfl (by omega) ⟨by simp;exact φ.ns h n 5,trivial,List.Pairwise.nil,Or.inl U⟩ (by simpa[eZ]using Gr.ns (Ext.refl h n))) ⟨rfl,rfl,rfl,trivial⟩;intro vo m h1 n1 E1 e1 M6 s1;refine dQ s1 ?_;refine ζ<|γ U<|γ U<|ε (Θ ⟨_,rfl,hQ vo h1 n1 e1 ⟨m,M6.tm⟩⟩)
end
section
variable {C:Nat->Option bN}{h:Hf}{n:K}{Q:V->Hf->K->Prop}
theorem Wr(p q:S×S):pk .eql (.agg [(0,.str),(1,.str)]) (.a [st p.1,st p.2]) (.a [st q.1,st q.2])=some (.b (decide (p=q))):=by
 have e1:=He p.1 q.1;have e2:=He p.2 q.2;have e3:decide (p=q)=(decide (p.1=q.1)&&decide (p.2=q.2)):=by
  by_cases h:p=q
  ·subst h;simp
  ·have:¬ (p.1=q.1/\p.2=q.2):=λh'=>h (Prod.ext h'.1 h'.2);by_cases h1:p.1=q.1<;>by_cases h2:p.2=q.2<;>simp_all
 rw[e3,←e1,←e2];simp only[pk,mw,CW,nth,da];cases (Nat.beq p.1.length q.1.length&&Nat.beq (bp p.1) (bp q.1))<;>cases (Nat.beq p.2.length q.2.length&&Nat.beq (bp p.2) (bp q.2))<;>rfl
theorem Ws(p q:S×S):pk .neq (.agg [(0,.str),(1,.str)]) (.a [st p.1,st p.2]) (.a [st q.1,st q.2])=some (.b (!decide (p=q))):=by
 have:=Wr p q;simp only[pk]at this ⊢;split at this
 ·rename_i b h;cases this;rfl
 ·cases this
theorem CE{α:Type}{a b:List α}{i:Nat}(h1:i<a.length)(h2:i<b.length):(a.drop i=b.drop i)↔(a[i]=b[i]/\a.drop (i+1)=b.drop (i+1)):=by rw[fC h1,fC h2,List.cons.injEq]
theorem ahP{va vb:V}{a b:List Int}(ia:eL h n .i64 va a)(ib:eL h n .i64 vb b)(hl:a.length=b.length)(hlen:a.length<1000000)(hQ:∀r,(r=true↔a=b)->Q (.b r) h n):∀(m i:Nat),a.length - i=m->i<=a.length->(a=b↔a.drop i=b.drop i)->WC C Ug [(k0,va),(k1,vb),(aF,.i .i64 (a.length:Nat)),(aG,.i .i64 (i:Nat))] h n (blk 0 (sq C Uh (fq [.t k4] Q))):=by
 intro m
 induction m with
 | zero=>
  intro i hm hi he;have:i=a.length:=by omega
  subst this;refine aJ ?_;refine ζ<|aO U U<|ε ?_;refine ξ<|ay U (by simp)<|bM ?_;have:a=b:=he.2 (by rw[gY,hl,gY]);refine ζ<|γ U<|ε (Θ ⟨_,rfl,hQ true (by simp[this])⟩)
 | succ m ih=>
  intro i hm hi he;have ω:i<a.length:=by omega
  have cZ:i<b.length:=by omega
  rw[CE ω cZ]at he;refine aJ ?_;refine ζ<|aO U U<|ε ?_;refine ξ<|an U (by simp<;>omega)<|ae ?_;refine ξ<|aC<|ζ<|γ U<|γ U<|ε ?_;refine dh<|ao U<|ao U<|cX U U (ia) (ω)<|aD U (ia.get ω _) U (by simp[cT,hJ,dD,jG])<|ao U<|ao U<|cX U U (ib) (cZ)<|aD U (ib.get cZ _) U (by simp[cT,hJ,dD,jG])<|Ew U U<|cG (by simp[AG,gP,jW,Nat.testBit]) ?_;refine cB U (λhx=>?_) (λhx=>ae ?_)
  ·have aR:a[i]≠b[i]:=by simpa using hx
   refine ζ<|γ U<|ε (Θ ⟨_,rfl,hQ false (by simp only[mC,false_iff];exact λe=>aR (he.1 e).1)⟩)
  ·have heq:a[i]=b[i]:=by simpa using hx
   refine aL<|cU U U ⟨by omega,by omega⟩<|γ U<|ε ?_;exact Γ (ih (i+1) (by omega) (by omega) (he.trans ⟨And.right,λe=>⟨heq,e⟩⟩)) ⟨rfl,rfl,rfl,rfl,trivial⟩
theorem w89(hC:Cd C){va vb:V}{a b:List Int}(ia:eL h n .i64 va a)(ib:eL h n .i64 vb b)(hlen:a.length<1000000)(hQ:∀r,(r=true↔a=b)->Q (.b r) h n):τ C (.f 89 [] []) [va,vb] h n Q:=by
 refine τ.go hC.f89 U ?_;refine ζ<|γ U<|ε ?_;refine ξ<|ζ<|γ U<|az U (ia)<|γ U<|az U (ib)<|dE U U<|ε ?_;by_cases hl:a.length=b.length
 ·refine ay U (by simp[hl])<|ae ?_;refine ξ<|ζ<|γ U<|az U (ia)<|γ U<|ε ?_;exact aC<|Γ (ahP ia ib hl hlen hQ _ 0 rfl (by omega) (by simp)) ⟨rfl,rfl,rfl,rfl,trivial⟩
 ·refine an U (by simp<;>omega) ?_;refine ζ<|γ U<|ε (Θ ⟨_,rfl,hQ false (by simp only[mC,false_iff];exact λe=>hl (by rw[e]))⟩)
theorem ahQ{va vb:V}{a b:List (S×S)}(ia:ep h n va a)(ib:ep h n vb b)(hl:a.length=b.length)(hlen:a.length<1000000)(hQ:∀r,(r=true↔a=b)->Q (.b r) h n):∀(m i:Nat),a.length - i=m->i<=a.length->(a=b↔a.drop i=b.drop i)->WC C Ue [(k0,va),(k1,vb),(aF,.i .i64 (a.length:Nat)),(aG,.i .i64 (i:Nat))] h n (blk 0 (sq C Uf (fq [.t k4] Q))):=by
 intro m;have vv:∀p:S×S,cT (.a [st p.1,st p.2]) (.a [st p.1,st p.2])=true:=λp=>by simp[cT,kG,dD]
 induction m with
 | zero=>
  intro i hm hi he;have:i=a.length:=by omega
  subst this;refine aJ ?_;refine ζ<|aO U U<|ε ?_;refine ξ<|ay U (by simp)<|bM ?_;have:a=b:=he.2 (by rw[gY,hl,gY]);refine ζ<|γ U<|ε (Θ ⟨_,rfl,hQ true (by simp[this])⟩)
 | succ m ih=>
  intro i hm hi he;have ω:i<a.length:=by omega
  have cZ:i<b.length:=by omega
  rw[CE ω cZ]at he;refine aJ ?_;refine ζ<|aO U U<|ε ?_;refine ξ<|an U (by simp<;>omega)<|ae ?_;refine ξ<|aC<|ζ<|γ U<|γ U<|ε ?_;refine dh<|ao U<|ao U<|cX U U (ia) (ω)<|aD U (ia.nF ω) (rfl) (vv _)<|ao U<|ao U<|cX U U (ib) (cZ)<|aD U (ib.nF cZ) (rfl) (vv _)<|Ru U U (Ws a[i] b[i])<|cG (by simp[AG,gP,jW,Nat.testBit]) ?_;refine cB U (λhx=>?_) (λhx=>ae ?_)
  ·have aR:a[i]≠b[i]:=by simpa using hx
   refine ζ<|γ U<|ε (Θ ⟨_,rfl,hQ false (by simp only[mC,false_iff];exact λe=>aR (he.1 e).1)⟩)
  ·have heq:a[i]=b[i]:=by simpa using hx
   refine aL<|cU U U ⟨by omega,by omega⟩<|γ U<|ε ?_;exact Γ (ih (i+1) (by omega) (by omega) (he.trans ⟨And.right,λe=>⟨heq,e⟩⟩)) ⟨rfl,rfl,rfl,rfl,trivial⟩
theorem w88(hC:Cd C){va vb:V}{a b:List (S×S)}(ia:ep h n va a)(ib:ep h n vb b)(hlen:a.length<1000000)(hQ:∀r,(r=true↔a=b)->Q (.b r) h n):τ C (.f 88 [] []) [va,vb] h n Q:=by
 refine τ.go hC.f88 U ?_;refine ζ<|γ U<|ε ?_;refine ξ<|ζ<|γ U<|az U (ia)<|γ U<|az U (ib)<|dE U U<|ε ?_;by_cases hl:a.length=b.length
 ·refine ay U (by simp[hl])<|ae ?_;refine ξ<|ζ<|γ U<|az U (ia)<|γ U<|ε ?_;exact aC<|Γ (ahQ ia ib hl hlen hQ _ 0 rfl (by omega) (by simp)) ⟨rfl,rfl,rfl,rfl,trivial⟩
 ·refine an U (by simp<;>omega) ?_;refine ζ<|γ U<|ε (Θ ⟨_,rfl,hQ false (by simp only[mC,false_iff];exact λe=>hl (by rw[e]))⟩)
theorem Wt{x y:Nd}(h1:x.op=y.op)(h2:x.sort=y.sort)(h3:x.name=y.name)(h4:x.vars=y.vars)(h5:x.kids=y.kids):x=y:=by cases x;cases y;simp_all
theorem w34(hC:Cd C){x y:Nd}{vx kx vy ky:V}(bx:ep h n vx x.vars)(ix:eL h n .i64 kx x.kids)(ie:ep h n vy y.vars)(iy:eL h n .i64 ky y.kids)(hv:x.vars.length<1000000)(hk:x.kids.length<1000000)
 (hQ:∀r h' n',Ext h n h' n'->(r=true↔x=y)->Q (.b r) h' n'):τ C (.f 34 [] []) [.a (cR x vx kx),.a (cR y vy ky)] h n Q:=by
 refine τ.go hC.f34 U ?_;refine ζ<|et U (rfl) (kc x (φ.one bx) (φ.one ix)) <| λh1 n1 dS a1 e1=>et U (rfl) (kc y (φ.one ie) (φ.one iy)) <| λh2 n2 iL a2 e2=>γ U<|ε ?_;have iU:=e1.trans e2;have cx:Cl h2 n2 n (cR x vx kx) 69:=Cl.ext ⟨by omega,a1⟩ e2;have cy:Cl h2 n2 n1 (cR y vy ky) 69:=⟨by omega,a2⟩;have no:x≠y->Q (.b false) h2 n2:=λaR=>hQ false _ _ iU (by simp[aR]);by_cases g0:x.op=y.op
 case neg=>
  refine ζ<|ρ U<|ν U ((cx.ld (o:=0+0) U _))<|ρ U<|ν U ((cy.ld (o:=0+0) U _))<|bm U U<|γ U<|μ U (by simp[g0])<|μ U (by simp[g0])<|μ U (by simp[g0])<|μ U (by simp[g0])<|μ U (by simp[g0])<|aK U (by simp[g0]) U<|γ U<|μ U (rfl)<|μ U (rfl)<|μ U (rfl)<|μ U (rfl)<|μ U (rfl)<|aK U (rfl) U<|γ U<|μ U (rfl)<|μ U (rfl)<|μ U (rfl)<|μ U (rfl)<|μ U (rfl)<|aK U (rfl) U<|γ U<|μ U (rfl)<|μ U (rfl)<|μ U (rfl)<|μ U (rfl)<|μ U (rfl)<|aK U (rfl) U<|γ U<|ε (Θ ⟨_,rfl,no λe=>g0 (by rw[e])⟩)
 by_cases g1:x.sort=y.sort
 case neg=>
  refine ζ<|ρ U<|ν U ((cx.ld (o:=0+0) U _))<|ρ U<|ν U ((cy.ld (o:=0+0) U _))<|bm U U<|γ U<|κ U (by simp[g0])<|ρ U<|κ U (by simp[g0])<|ν U ((cx.ld (o:=0+1) U _))<|κ U (by simp[g0])<|ρ U<|κ U (by simp[g0])<|ν U ((cy.ld (o:=0+1) U _))<|κ U (by simp[g0])<|en U U<|aS U (by simp[g0]) U<|γ U<|μ U (by simp[g1])<|μ U (by simp[g1])<|μ U (by simp[g1])<|μ U (by simp[g1])<|μ U (by simp[g1])<|aK U (by simp[g1]) U<|γ U<|μ U (rfl)<|μ U (rfl)<|μ U (rfl)<|μ U (rfl)<|μ U (rfl)<|aK U (rfl) U<|γ U<|μ U (rfl)<|μ U (rfl)<|μ U (rfl)<|μ U (rfl)<|μ U (rfl)<|aK U (rfl) U<|γ U<|ε (Θ ⟨_,rfl,no λe=>g1 (by rw[e])⟩)
 by_cases g2:x.name=y.name
 case neg=>
  refine ζ<|ρ U<|ν U ((cx.ld (o:=0+0) U _))<|ρ U<|ν U ((cy.ld (o:=0+0) U _))<|bm U U<|γ U<|κ U (by simp[g0])<|ρ U<|κ U (by simp[g0])<|ν U ((cx.ld (o:=0+1) U _))<|κ U (by simp[g0])<|ρ U<|κ U (by simp[g0])<|ν U ((cy.ld (o:=0+1) U _))<|κ U (by simp[g0])<|en U U<|aS U (by simp[g0]) U<|γ U<|κ U (by simp[g1])<|ρ U<|κ U (by simp[g1])<|ν U ((cx.ld (o:=0+2) U _))<|κ U (by simp[g1])<|ρ U<|κ U (by simp[g1])<|ν U ((cy.ld (o:=0+2) U _))<|κ U (by simp[g1])<|en U U<|aS U (by simp[g1]) U<|γ U<|μ U (by simp[g2])<|μ U (by simp[g2])<|μ U (by simp[g2])<|μ U (by simp[g2])<|μ U (by simp[g2])<|aK U (by simp[g2]) U<|γ U<|μ U (rfl)<|μ U (rfl)<|μ U (rfl)<|μ U (rfl)<|μ U (rfl)<|aK U (rfl) U<|γ U<|ε (Θ ⟨_,rfl,no λe=>g2 (by rw[e])⟩)
 by_cases g3:x.vars=y.vars
 case neg=>
  have Nk:∀{Q:V->Hf->K->Prop},Q (.b false) h2 n2->τ C (.f 88 [] []) [vx,vy] h2 n2 Q:=λhQ=>w88 hC (bx.ext iU) (ie.ext iU) hv λr hr=>by
   have:r=false:=by cases r with | false=>rfl | true=>exact absurd (hr.1 rfl) g3
   rw[this];exact hQ
  refine ζ<|ρ U<|ν U ((cx.ld (o:=0+0) U _))<|ρ U<|ν U ((cy.ld (o:=0+0) U _))<|bm U U<|γ U<|κ U (by simp[g0])<|ρ U<|κ U (by simp[g0])<|ν U ((cx.ld (o:=0+1) U _))<|κ U (by simp[g0])<|ρ U<|κ U (by simp[g0])<|ν U ((cy.ld (o:=0+1) U _))<|κ U (by simp[g0])<|en U U<|aS U (by simp[g0]) U<|γ U<|κ U (by simp[g1])<|ρ U<|κ U (by simp[g1])<|ν U ((cx.ld (o:=0+2) U _))<|κ U (by simp[g1])<|ρ U<|κ U (by simp[g1])<|ν U ((cy.ld (o:=0+2) U _))<|κ U (by simp[g1])<|en U U<|aS U (by simp[g1]) U<|γ U<|κ U (by simp[g2])<|ρ U<|κ U (by simp[g2])<|ν U ((cx.ld (o:=0+3) U _))<|κ U (by simp[g2])<|ρ U<|κ U (by simp[g2])<|ν U ((cy.ld (o:=0+3) U _))<|κ U (by simp[g2])<|ak U U<|Nk<|aS U (by simp[g2]) U<|γ U<|μ U (rfl)<|μ U (rfl)<|μ U (rfl)<|μ U (rfl)<|μ U (rfl)<|aK U (rfl) U<|γ U<|ε (Θ ⟨_,rfl,no λe=>g3 (by rw[e])⟩)
 have Nk:∀{Q:V->Hf->K->Prop},Q (.b true) h2 n2->τ C (.f 88 [] []) [vx,vy] h2 n2 Q:=λhQ=>w88 hC (bx.ext iU) (ie.ext iU) hv λr hr=>by rw[hr.2 g3];exact hQ
 refine ζ<|ρ U<|ν U ((cx.ld (o:=0+0) U _))<|ρ U<|ν U ((cy.ld (o:=0+0) U _))<|bm U U<|γ U<|κ U (by simp[g0])<|ρ U<|κ U (by simp[g0])<|ν U ((cx.ld (o:=0+1) U _))<|κ U (by simp[g0])<|ρ U<|κ U (by simp[g0])<|ν U ((cy.ld (o:=0+1) U _))<|κ U (by simp[g0])<|en U U<|aS U (by simp[g0]) U<|γ U<|κ U (by simp[g1])<|ρ U<|κ U (by simp[g1])<|ν U ((cx.ld (o:=0+2) U _))<|κ U (by simp[g1])<|ρ U<|κ U (by simp[g1])<|ν U ((cy.ld (o:=0+2) U _))<|κ U (by simp[g1])<|en U U<|aS U (by simp[g1]) U<|γ U<|κ U (by simp[g2])<|ρ U<|κ U (by simp[g2])<|ν U ((cx.ld (o:=0+3) U _))<|κ U (by simp[g2])<|ρ U<|κ U (by simp[g2])<|ν U ((cy.ld (o:=0+3) U _))<|κ U (by simp[g2])<|ak U U<|Nk<|aS U (by simp[g2]) U<|γ U<|κ U (rfl)<|ρ U<|κ U (rfl)<|ν U ((cx.ld (o:=0+4) U _))<|κ U (rfl)<|ρ U<|κ U (rfl)<|ν U ((cy.ld (o:=0+4) U _))<|κ U (rfl)<|ak U U<|w89 hC (ix.ext iU) (iy.ext iU) hk <| λr hr=>aS U (rfl) U<|γ U<|ε ?_;exact Θ ⟨_,rfl,hQ r _ _ iU (hr.trans ⟨λe=>Wt g0 g1 g2 g3 e,λe=>by rw[e]⟩)⟩
section
variable {h0:Hf}{n0:K}{ta tb:V}{a b:List Nd}
theorem ahS(hC:Cd C)(kX:dA h0 n0 ta a)(lO:dA h0 n0 tb b)(ba:Bd a)(hl:a.length=b.length)(hQ:∀r h' n',Ext h0 n0 h' n'->(r=true↔a=b)->Q (.b r) h' n'):
 ∀(m i:Nat) (h:Hf) (n:K),a.length - i=m->i<=a.length->(a=b↔a.drop i=b.drop i)->Ext h0 n0 h n->WC C Uc [(k1,tb),(k2,.f 34 [] []),(aT,ta),(aU,.i .i64 (a.length:Nat)),(aM,.i .i64 (i:Nat))] h n (blk 0 (sq C Ud (fq [.t k6] Q))):=by
 have hlen:=ba.len;intro m
 induction m with
 | zero=>
  intro i h n hm hi he hx;have:i=a.length:=by omega
  subst this;refine aJ ?_;refine ζ<|aO U U<|ε ?_;refine ξ<|ay U (by simp)<|bM ?_;have:a=b:=he.2 (by rw[gY,hl,gY]);refine ζ<|γ U<|ε (Θ ⟨_,rfl,hQ true h n hx (by simp[this])⟩)
 | succ m ih=>
  intro i h n hm hi he hx;have ω:i<a.length:=by omega
  have cZ:i<b.length:=by omega
  rw[CE ω cZ]at he;have FA:=kX.ext hx;have CF:=lO.ext hx;obtain⟨cs,hs⟩:=FA.sl;obtain⟨vx,kx,xx⟩:=FA.node ω;obtain⟨yY,tR⟩:=CF.sl;obtain⟨vy,ky,yy⟩:=CF.node cZ;have o1:=kc a[i] (φ.one xx.vars) (φ.one xx.kids);have o2:=kc b[i] (φ.one yy.vars) (φ.one yy.kids);refine aJ ?_;refine ζ<|aO U U<|ε ?_;refine ξ<|an U (by simp<;>omega)<|ae ?_;refine ξ<|aC<|ζ<|γ U<|bj U U (hs) (ω)<|ν U (xx.all)<|du <| λh1 n1 dS a1 e1=>γ U<|bL U U (a1) (dW rfl rfl o1) <| λh2 a2 b2=>ε ?_;have x2:Ext h n h2 n1:=e1.aj b2 (χ _);have ahT:=CF.ext x2;obtain⟨cs2,kz⟩:=ahT.sl;have ahU:aX h2 true 5 (.p tb.blk (tb.off+i*5))=some (.a (cR b[i] vy ky)):=(yy.ext x2).all;refine ζ<|γ U<|γ U<|bj U U (kz) (cZ)<|ν U (ahU)<|du <| λh3 n3 og a3 e3=>bL U U (a3) (dW rfl rfl o2) <| λh4 a4 b4=>ε ?_;have x4:Ext h n h4 n3:=(x2.trans e3).aj b4 (by omega);have l8:h4 n=some (.c (cR a[i] vx kx) 69 0):=by rw[b4 _ (by omega),e3.2 _ (by omega)];exact a2
  have xx4:=xx.ext x4;have yy4:=yy.ext x4;refine ζ<|γ U<|ν U (bQ l8 (rB rfl))<|ν U (bQ a4 (rB rfl))<|ak U U<|w34 hC xx4.vars xx4.kids yy4.vars yy4.kids (by have:=ba.vl i ω;omega) (ba.pX i ω) <| λr h5 n5 e5 hr=>di U<|ε ?_;have x5:=hx.trans (x4.trans e5);refine cB U (λhc=>?_) (λhc=>ae ?_)
  ·have aR:a[i]≠b[i]:=λe=>by have:=hr.2 e;rw[this]at hc;cases hc
   refine ζ<|γ U<|ε (Θ ⟨_,rfl,hQ false _ _ x5 (by simp only[mC,false_iff];exact λe=>aR (he.1 e).1)⟩)
  ·have heq:a[i]=b[i]:=hr.1 (by simpa using hc);refine aL<|cU U U ⟨by omega,by omega⟩<|γ U<|ε ?_;exact Γ (ih (i+1) h5 n5 (by omega) (by omega) (he.trans ⟨And.right,λe=>⟨heq,e⟩⟩) x5) ⟨rfl,rfl,rfl,rfl,rfl,trivial⟩
end
theorem w9(hC:Cd C){ta tb:V}{a b:List Nd}(kX:dA h n ta a)(lO:dA h n tb b)(ba:Bd a)(hQ:∀r h' n',Ext h n h' n'->(r=true↔a=b)->Q (.b r) h' n'):τ C (.f 9 [] []) [ta,tb] h n Q:=by
 have YQ:∀{Q:V->Hf->K->Prop},(∀r h' n',Ext h n h' n'->(r=true↔a=b)->Q (.b r) h' n')->τ C (.f 33 [] []) [ta,tb,.f 34 [] []] h n Q:=by
  intro Q hQ;refine τ.go hC.f33 U ?_;obtain⟨cs,hs⟩:=kX.sl;obtain⟨yY,tR⟩:=lO.sl;refine ζ<|γ U<|ε ?_;refine ξ<|ζ<|γ U<|az U (hs)<|γ U<|az U (tR)<|dE U U<|ε ?_;by_cases hl:a.length=b.length
  ·refine ay U (by simp[hl])<|ae ?_;refine ξ<|ζ<|γ U<|az U (hs)<|γ U<|ε ?_;exact aC<|Γ (ahS hC kX lO ba hl hQ _ 0 h n rfl (by omega) (by simp) (Ext.refl _ _)) ⟨rfl,rfl,rfl,rfl,rfl,trivial⟩
  ·refine an U (by simp<;>omega) ?_;refine ζ<|γ U<|ε (Θ ⟨_,rfl,hQ false _ _ (Ext.refl _ _) (by simp only[mC,false_iff];exact λe=>hl (by rw[e]))⟩)
 refine τ.go hC.f9 U ?_;refine ζ<|γ U<|ε ?_;refine ζ<|γ U<|γ U<|ak U U<|YQ <| λr h1 n1 e1 hr=>γ U<|ε ?_;exact Θ ⟨_,rfl,hQ r h1 n1 e1 hr⟩
end
section
variable {C:Nat->Option bN}{h:Hf}{n:K}{Q:V->Hf->K->Prop}
def Ag(n:K)(h H:Hf):Prop:=∀k:K,k.num<n.num->H k=h k
theorem Ag.refl(n:K)(h:Hf):Ag n h h:=λ_ _=>rfl
theorem Ag.hp{n:K}{h H:Hf}(a:Ag n h H)(b:K)(o:Option O)(hb:n.num<=b.num):Ag n h (X.hp H b o):=λk hk=>by rw[ox _ _ (sU (by omega))];exact a k hk
theorem Ag.ext{n n1 n2:K}{h H H':Hf}(a:Ag n h H)(e:Ext H n1 H' n2)(hn:n.num<=n1.num):Ag n h H':=λk hk=>by rw[e.2 k (by omega)];exact a k hk
theorem Ag.aj{n b:K}{h H H':Hf}(a:Ag n h H)(e:de b H H')(hn:n.num<=b.num):Ag n h H':=λk hk=>by rw[e k (by omega)];exact a k hk
theorem Ag.x{n n':K}{h H:Hf}(a:Ag n h H)(hn:n.num<=n'.num):Ext h n H n':=⟨hn,a⟩
theorem Ext.ag{n n':K}{h H:Hf}(a:Ext h n H n'):Ag n h H:=a.2
theorem CG{h:Hf}{b k:K}{o:Option O}(hk:k.num≠b.num):hp h b o k=h k:=ox _ _ (sU hk)
section
variable {x y:Nd}{vx kx vy ky:V}{b6 b7:K}{h0:Hf}{n0:K}
theorem ahX(ix:eL h n .i64 kx x.kids)(iy:eL h n .i64 ky y.kids)(hl:x.kids.length=y.kids.length)(hlen:x.kids.length<1000000)(cx:Cl h n b6 (cR x vx kx) 69)(cy:Cl h n b7 (cR y vy ky) 69){k0v k1v k5v:V}{Q1:Ex->Env->Hf->K->Prop}
 (kL:x.kids≠y.kids->∀E',lk E' k4=some (.b false)->Q1 .ret E' h n)(jj:x.kids=y.kids->∀E',dK [(k0,k0v),(k1,k1v),(k5,k5v),(k6,.p b6 0),(k7,.p b7 0)] E'->Q1 .normal E' h n):
 ∀(m i:Nat),x.kids.length - i=m->i<=x.kids.length->(x.kids=y.kids↔x.kids.drop i=y.kids.drop i)->WC C Uj [(k0,k0v),(k1,k1v),(k5,k5v),(k6,.p b6 0),(k7,.p b7 0),(k8,.i .i64 (i:Nat))] h n (blk 2 Q1):=by
 intro m;have vv:∀p:S×S,cT (.a [st p.1,st p.2]) (.a [st p.1,st p.2])=true:=λp=>by simp[cT,kG,dD]
 have lx:aX h false 1 (.p b6 (0+4))=some kx:=cx.ld U _;have ly:aX h false 1 (.p b7 (0+4))=some ky:=cy.ld U _;have Jw:bB n kx=true:=φ.below ix (χ _);have Dj:bB n ky=true:=φ.below iy (χ _)
 induction m with
 | zero=>
  intro i hm hi he;have:i=x.kids.length:=by omega
  subst this;refine aJ ?_;refine ξ<|ζ<|γ U<|ρ U<|ν U (lx)<|az U (ix)<|aO U U<|ε ?_;exact ay U (by simp)<|bM (jj (he.2 (by rw[gY,hl,gY])) _ ⟨rfl,rfl,rfl,rfl,rfl,trivial⟩)
 | succ m ih=>
  intro i hm hi he;have ω:i<x.kids.length:=by omega
  have cZ:i<y.kids.length:=by omega
  rw[CE ω cZ]at he;refine aJ ?_;refine ξ<|ζ<|γ U<|ρ U<|ν U (lx)<|az U (ix)<|aO U U<|ε ?_;refine an U (by simp<;>omega)<|ae ?_;refine ξ<|aC<|dh<|bX U<|aD U (lx) (Jw) (φ.da ix)<|ao U<|cX U U (ix) (ω)<|aD U ((ix.get ω _)) U (by simp[cT,hJ,dD,jG])<|bX U<|aD U (ly) (Dj) (φ.da iy)<|ao U<|cX U U (iy) (cZ)<|aD U ((iy.get cZ _)) U (by simp[cT,hJ,dD,jG])<|Ew U U<|cG (by simp[AG,gP,jW,Nat.testBit]) ?_;refine cB U (λhx=>?_) (λhx=>ae ?_)
  ·have aR:x.kids[i]≠y.kids[i]:=by simpa using hx
   refine ζ<|γ U<|ε ?_;exact Θ (kL (λe=>aR (he.1 e).1) _ rfl)
  ·have heq:x.kids[i]=y.kids[i]:=by simpa using hx
   refine aL<|γ U<|cU U U ⟨by omega,by omega⟩<|γ U<|ε ?_;exact Γ (ih (i+1) (by omega) (by omega) (he.trans ⟨And.right,λe=>⟨heq,e⟩⟩)) ⟨rfl,rfl,rfl,rfl,rfl,rfl,trivial⟩
theorem ahY(bx:ep h n vx x.vars)(ie:ep h n vy y.vars)(hl:x.vars.length=y.vars.length)(hlen:x.vars.length<1000000)(cx:Cl h n b6 (cR x vx kx) 69)(cy:Cl h n b7 (cR y vy ky) 69){k0v k1v k5v:V}{Q1:Ex->Env->Hf->K->Prop}
 (kL:x.vars≠y.vars->∀E',lk E' k4=some (.b false)->Q1 .ret E' h n)(jj:x.vars=y.vars->∀E',dK [(k0,k0v),(k1,k1v),(k5,k5v),(k6,.p b6 0),(k7,.p b7 0)] E'->Q1 .normal E' h n):
 ∀(m i:Nat),x.vars.length - i=m->i<=x.vars.length->(x.vars=y.vars↔x.vars.drop i=y.vars.drop i)->WC C Uk [(k0,k0v),(k1,k1v),(k5,k5v),(k6,.p b6 0),(k7,.p b7 0),(k9,.i .i64 (i:Nat))] h n (blk 4 Q1):=by
 intro m;have vv:∀p:S×S,cT (.a [st p.1,st p.2]) (.a [st p.1,st p.2])=true:=λp=>by simp[cT,kG,dD]
 have lx:aX h false 1 (.p b6 (0+3))=some vx:=cx.ld U _;have ly:aX h false 1 (.p b7 (0+3))=some vy:=cy.ld U _;have Jw:bB n vx=true:=φ.below bx (χ _);have Dj:bB n vy=true:=φ.below ie (χ _)
 induction m with
 | zero=>
  intro i hm hi he;have:i=x.vars.length:=by omega
  subst this;refine aJ ?_;refine ξ<|ζ<|γ U<|ρ U<|ν U (lx)<|az U (bx)<|aO U U<|ε ?_;exact ay U (by simp)<|bM (jj (he.2 (by rw[gY,hl,gY])) _ ⟨rfl,rfl,rfl,rfl,rfl,trivial⟩)
 | succ m ih=>
  intro i hm hi he;have ω:i<x.vars.length:=by omega
  have cZ:i<y.vars.length:=by omega
  rw[CE ω cZ]at he;refine aJ ?_;refine ξ<|ζ<|γ U<|ρ U<|ν U (lx)<|az U (bx)<|aO U U<|ε ?_;refine an U (by simp<;>omega)<|ae ?_;refine ξ<|aC<|dh<|bX U<|aD U (lx) (Jw) (φ.da bx)<|ao U<|cX U U (bx) (ω)<|aD U ((bx.nF ω)) (rfl) (vv _)<|bX U<|aD U (ly) (Dj) (φ.da ie)<|ao U<|cX U U (ie) (cZ)<|aD U ((ie.nF cZ)) (rfl) (vv _)<|Ru U U (Ws x.vars[i] y.vars[i])<|cG (by simp[AG,gP,jW,Nat.testBit]) ?_;refine cB U (λhx=>?_) (λhx=>ae ?_)
  ·have aR:x.vars[i]≠y.vars[i]:=by simpa using hx
   refine ζ<|γ U<|ε ?_;exact Θ (kL (λe=>aR (he.1 e).1) _ rfl)
  ·have heq:x.vars[i]=y.vars[i]:=by simpa using hx
   refine aL<|γ U<|cU U U ⟨by omega,by omega⟩<|γ U<|ε ?_;exact Γ (ih (i+1) (by omega) (by omega) (he.trans ⟨And.right,λe=>⟨heq,e⟩⟩)) ⟨rfl,rfl,rfl,rfl,rfl,rfl,trivial⟩
end
section
variable {h0:Hf}{n0:K}{ta tb:V}{a b:List Nd}
theorem ahZ(kX:dA h0 n0 ta a)(lO:dA h0 n0 tb b)(ba:Bd a)(hl:a.length=b.length)(hQ:∀r h' n',Ext h0 n0 h' n'->(r=true↔a=b)->Q (.b r) h' n'):
 ∀(m i:Nat) (h:Hf) (n:K),a.length - i=m->i<=a.length->(a=b↔a.drop i=b.drop i)->Ext h0 n0 h n->WC C Uo [(k0,ta),(k1,tb),(k5,.i .i64 (i:Nat))] h n (blk 0 (sq C LB (fq [.t k4] Q))):=by
 have hlen:=ba.len;intro m
 induction m with
 | zero=>
  intro i h n hm hi he hx;have:i=a.length:=by omega
  subst this;obtain⟨cs,hs⟩:=(kX.ext hx).sl;refine aJ ?_;refine ξ<|ζ<|γ U<|γ U<|az U (hs)<|aO U U<|ε ?_;refine ay U (by simp)<|bM ?_;have:a=b:=he.2 (by rw[gY,hl,gY]);refine ζ<|γ U<|ε (Θ ⟨_,rfl,hQ true h n hx (by simp[this])⟩)
 | succ m ih=>
  intro i h n hm hi he hx;have ω:i<a.length:=by omega
  have cZ:i<b.length:=by omega
  rw[CE ω cZ]at he;have FA:=kX.ext hx;have CF:=lO.ext hx;obtain⟨cs,hs⟩:=FA.sl;obtain⟨vx,kx,xx⟩:=FA.node ω;obtain⟨yY,tR⟩:=CF.sl;obtain⟨vy,ky,yy⟩:=CF.node cZ;have o1:=kc a[i] (φ.one xx.vars) (φ.one xx.kids);have o2:=kc b[i] (φ.one yy.vars) (φ.one yy.kids);have be:∀{x:Nd} {v k:V},ep h n v x.vars->eL h n .i64 k x.kids->bB n (.a (cR x v k))=true:=by intro x v k g1 g2;have h1:=φ.below g1 (χ n.num);have h2:=φ.below g2 (χ n.num);simp only[bB,cR,gn,h1,h2];rfl
  have ve:∀{x:Nd} {v k:V},ep h n v x.vars->eL h n .i64 k x.kids->cT (.a (cR x v k)) (.a (cR x v k))=true:=by intro x v k g1 g2;have h1:=φ.da g1;have h2:=φ.da g2;simp only[cT,cR];exact jX (fK _ _) (jX (fA _ _) (jX (fA _ _) (jX h1 (jX h2 rfl))))
  have FB:∀{H:Hf},Ag n h H->aX H true 5 (.p tb.blk (tb.off+i*5))=some (.a (cR b[i] vy ky)):=λag=>(yy.ext (ag.x (χ _))).all;refine aJ ?_;refine ξ<|ζ<|γ U<|γ U<|az U (hs)<|aO U U<|ε ?_;refine an U (by simp<;>omega)<|ae ?_;refine ξ<|aC<|dh<|ao U<|ao U<|cX U U (hs) (ω)<|aD U (xx.all) (be xx.vars xx.kids) (ve xx.vars xx.kids)<|ao U<|ao U<|cX U U (tR) (cZ)<|aD U (yy.all) (be yy.vars yy.kids) (ve yy.vars yy.kids)<|sZ <| λh1 n1 dS a1 e1=>sZ <| λh2 n2 iL a2 e2=>fV U U ((fR h2 n (h1 n)).trans a1) (dW rfl rfl o1) <| λh3 a3 b3=>fV U U ((b3 n1 (by omega)).trans ((CG (h:=h2) (b:=n) (o:=h1 n) (by omega)).trans a2)) (dW rfl rfl o2) <| λh4 a4 b4=>cG (⟨⟨Ω (by simp[Nat.testBit]),dj (FB (((((e1.ag.hp n none (χ _)).ext e2 (by omega)).hp n (h1 n) (χ _)).hp n1 none (by omega)).hp n none (χ _))) (FB ((((((e1.ag.hp n none (χ _)).ext e2 (by omega)).hp n (h1 n) (χ _)).aj b3 (χ _)).hp n1 none (by omega)).hp n none (χ _))),trivial⟩,⟨Ω (by simp[Nat.testBit]),Ω (by simp[Nat.testBit]),trivial⟩,trivial⟩) ?_;have xf:de n (hp h2 n (h1 n)) h3:=b3;have ny:de n1 h3 h4:=b4;have YR:Ag n h h4:=((((e1.ag.hp n none (χ _)).ext e2 (by omega)).hp n (h1 n) (χ _)).aj xf (χ _)).aj ny (by omega);have x4:Ext h n h4 n2:=YR.x (by omega);have cx:Cl h4 n2 n (cR a[i] vx kx) 69:=⟨by omega,(ny n (by omega)).trans a3⟩;have cy:Cl h4 n2 n1 (cR b[i] vy ky) 69:=⟨by omega,a4⟩;have bx:=xx.vars.ext x4;have ix:=xx.kids.ext x4;have ie:=yy.vars.ext x4;have iy:=yy.kids.ext x4;have fm:=ba.pX i ω;have sd:=ba.vl i ω;have AX:=hx.trans x4;have tB:aX h4 false 1 (.p n (0+0))=some (.i .i64 a[i].op):=cx.ld U _;have zm:aX h4 false 1 (.p n (0+1))=some (st a[i].sort):=cx.ld U _;have Jy:aX h4 false 1 (.p n (0+2))=some (st a[i].name):=cx.ld U _;have Ni:aX h4 false 1 (.p n (0+3))=some vx:=cx.ld U _;have Fx:aX h4 false 1 (.p n (0+4))=some kx:=cx.ld U _;have wo:aX h4 false 1 (.p n1 (0+0))=some (.i .i64 b[i].op):=cy.ld U _;have zp:aX h4 false 1 (.p n1 (0+1))=some (st b[i].sort):=cy.ld U _;have Jz:aX h4 false 1 (.p n1 (0+2))=some (st b[i].name):=cy.ld U _;have Nj:aX h4 false 1 (.p n1 (0+3))=some vy:=cy.ld U _;have Fy:aX h4 false 1 (.p n1 (0+4))=some ky:=cy.ld U _;have bad:a[i]≠b[i]->∀E',lk E' k4=some (.b false)->∃v,lW [.t k4] E' h4=some v/\Q v h4 n2:=λaR E' hE=>
   ⟨.b false,by simp only[lW,rA,uD,hE],hQ false _ _ AX (by simp only[mC,false_iff];exact λe=>aR (he.1 e).1)⟩
  have no:a[i]≠b[i]->WC C Ui [] h4 n2 (sq C Ul (blk 1 (sq C Um (sq C (.loop Un) (blk 0 (sq C LB (fq [.t k4] Q))))))):=by intro aR;refine ζ<|γ U<|ε ?_;exact Θ (bad aR _ rfl)
  by_cases g0:a[i].op=b[i].op
  case neg=>
   refine ξ<|ζ<|ρ U<|ν U (tB)<|ρ U<|ν U (wo)<|dE U U<|γ U<|μ U (by simp[g0])<|μ U (by simp[g0])<|μ U (by simp[g0])<|μ U (by simp[g0])<|μ U (by simp[g0])<|aS U (by simp[g0]) U<|γ U<|μ U (rfl)<|μ U (rfl)<|μ U (rfl)<|μ U (rfl)<|μ U (rfl)<|aS U (rfl) U<|γ U<|μ U (rfl)<|μ U (rfl)<|μ U (rfl)<|μ U (rfl)<|μ U (rfl)<|μ U (rfl)<|μ U (rfl)<|aS U (rfl) U<|γ U<|μ U (rfl)<|μ U (rfl)<|μ U (rfl)<|μ U (rfl)<|μ U (rfl)<|μ U (rfl)<|μ U (rfl)<|aS U (rfl) U<|ε ?_;exact an U U<|Γ (no λe=>g0 (by rw[e])) trivial
  by_cases g1:a[i].sort=b[i].sort
  case neg=>
   refine ξ<|ζ<|ρ U<|ν U (tB)<|ρ U<|ν U (wo)<|dE U U<|γ U<|κ U (by simp[g0])<|ρ U<|κ U (by simp[g0])<|ν U (zm)<|κ U (by simp[g0])<|ρ U<|κ U (by simp[g0])<|ν U (zp)<|κ U (by simp[g0])<|iP U U<|aK U (by simp[g0]) U<|γ U<|μ U (by simp[g1])<|μ U (by simp[g1])<|μ U (by simp[g1])<|μ U (by simp[g1])<|μ U (by simp[g1])<|aS U (by simp[g1]) U<|γ U<|μ U (rfl)<|μ U (rfl)<|μ U (rfl)<|μ U (rfl)<|μ U (rfl)<|μ U (rfl)<|μ U (rfl)<|aS U (rfl) U<|γ U<|μ U (rfl)<|μ U (rfl)<|μ U (rfl)<|μ U (rfl)<|μ U (rfl)<|μ U (rfl)<|μ U (rfl)<|aS U (rfl) U<|ε ?_;exact an U U<|Γ (no λe=>g1 (by rw[e])) trivial
  by_cases g2:a[i].name=b[i].name
  case neg=>
   refine ξ<|ζ<|ρ U<|ν U (tB)<|ρ U<|ν U (wo)<|dE U U<|γ U<|κ U (by simp[g0])<|ρ U<|κ U (by simp[g0])<|ν U (zm)<|κ U (by simp[g0])<|ρ U<|κ U (by simp[g0])<|ν U (zp)<|κ U (by simp[g0])<|iP U U<|aK U (by simp[g0]) U<|γ U<|κ U (by simp[g1])<|ρ U<|κ U (by simp[g1])<|ν U (Jy)<|κ U (by simp[g1])<|ρ U<|κ U (by simp[g1])<|ν U (Jz)<|κ U (by simp[g1])<|iP U U<|aK U (by simp[g1]) U<|γ U<|μ U (by simp[g2])<|μ U (by simp[g2])<|μ U (by simp[g2])<|μ U (by simp[g2])<|μ U (by simp[g2])<|μ U (by simp[g2])<|μ U (by simp[g2])<|aS U (by simp[g2]) U<|γ U<|μ U (rfl)<|μ U (rfl)<|μ U (rfl)<|μ U (rfl)<|μ U (rfl)<|μ U (rfl)<|μ U (rfl)<|aS U (rfl) U<|ε ?_;exact an U U<|Γ (no λe=>g2 (by rw[e])) trivial
  by_cases g3:a[i].kids.length=b[i].kids.length
  case neg=>
   refine ξ<|ζ<|ρ U<|ν U (tB)<|ρ U<|ν U (wo)<|dE U U<|γ U<|κ U (by simp[g0])<|ρ U<|κ U (by simp[g0])<|ν U (zm)<|κ U (by simp[g0])<|ρ U<|κ U (by simp[g0])<|ν U (zp)<|κ U (by simp[g0])<|iP U U<|aK U (by simp[g0]) U<|γ U<|κ U (by simp[g1])<|ρ U<|κ U (by simp[g1])<|ν U (Jy)<|κ U (by simp[g1])<|ρ U<|κ U (by simp[g1])<|ν U (Jz)<|κ U (by simp[g1])<|iP U U<|aK U (by simp[g1]) U<|γ U<|κ U (by simp[g2])<|ρ U<|κ U (by simp[g2])<|ν U (Fx)<|κ U (by simp[g2])<|az U (ix)<|κ U (by simp[g2])<|ρ U<|κ U (by simp[g2])<|ν U (Fy)<|κ U (by simp[g2])<|az U (iy)<|κ U (by simp[g2])<|dE U U<|aK U (by simp[g2]) U<|γ U<|μ U (by simp<;>omega)<|μ U (by simp<;>omega)<|μ U (by simp<;>omega)<|μ U (by simp<;>omega)<|μ U (by simp<;>omega)<|μ U (by simp<;>omega)<|μ U (by simp<;>omega)<|aS U (by simp<;>omega) U<|ε ?_;exact an U U<|Γ (no λe=>g3 (by rw[e])) trivial
  refine ξ<|ζ<|ρ U<|ν U (tB)<|ρ U<|ν U (wo)<|dE U U<|γ U<|κ U (by simp[g0])<|ρ U<|κ U (by simp[g0])<|ν U (zm)<|κ U (by simp[g0])<|ρ U<|κ U (by simp[g0])<|ν U (zp)<|κ U (by simp[g0])<|iP U U<|aK U (by simp[g0]) U<|γ U<|κ U (by simp[g1])<|ρ U<|κ U (by simp[g1])<|ν U (Jy)<|κ U (by simp[g1])<|ρ U<|κ U (by simp[g1])<|ν U (Jz)<|κ U (by simp[g1])<|iP U U<|aK U (by simp[g1]) U<|γ U<|κ U (by simp[g2])<|ρ U<|κ U (by simp[g2])<|ν U (Fx)<|κ U (by simp[g2])<|az U (ix)<|κ U (by simp[g2])<|ρ U<|κ U (by simp[g2])<|ν U (Fy)<|κ U (by simp[g2])<|az U (iy)<|κ U (by simp[g2])<|dE U U<|aK U (by simp[g2]) U<|γ U<|κ U (by simp<;>omega)<|ρ U<|κ U (by simp<;>omega)<|ν U (Ni)<|κ U (by simp<;>omega)<|az U (bx)<|κ U (by simp<;>omega)<|ρ U<|κ U (by simp<;>omega)<|ν U (Nj)<|κ U (by simp<;>omega)<|az U (ie)<|κ U (by simp<;>omega)<|dE U U<|aK U (by simp<;>omega) U<|ε ?_;by_cases g4:a[i].vars.length=b[i].vars.length
  case neg=>exact an U (by simp<;>omega)<|Γ (no λe=>g4 (by rw[e])) trivial
  refine ay U (by simp<;>omega)<|ae ?_;refine ξ<|ζ<|γ U<|ε ?_;refine aC<|Γ (ahX (k0v:=ta) (k1v:=tb) (k5v:=.i .i64 (i:Nat)) ix iy g3 fm cx cy ?_ ?_ _ 0 rfl (by omega) (by simp)) ⟨rfl,rfl,rfl,rfl,rfl,rfl,trivial⟩
  ·intro aR E' hE;exact bad (λe=>aR (by rw[e])) E' hE
  intro gk E1 s1;refine dQ s1 ?_;refine ζ<|γ U<|ε ?_;refine aC<|Γ (ahY (k0v:=ta) (k1v:=tb) (k5v:=.i .i64 (i:Nat)) bx ie g4 (by omega) cx cy ?_ ?_ _ 0 rfl (by omega) (by simp)) ⟨rfl,rfl,rfl,rfl,rfl,rfl,trivial⟩
  ·intro aR E' hE;exact bad (λe=>aR (by rw[e])) E' hE
  intro gv E2 s2;refine dQ s2 ?_;have heq:a[i]=b[i]:=Wt g0 g1 g2 gv gk;refine aL<|γ U<|cU U U ⟨by omega,by omega⟩<|γ U<|ε ?_;exact Γ (ih (i+1) h4 n2 (by omega) (by omega) (he.trans ⟨And.right,λe=>⟨heq,e⟩⟩) AX) ⟨rfl,rfl,rfl,trivial⟩
end
theorem w10(hC:Cd C){ta tb:V}{a b:List Nd}(kX:dA h n ta a)(lO:dA h n tb b)(ba:Bd a)(hQ:∀r h' n',Ext h n h' n'->(r=true↔a=b)->Q (.b r) h' n'):τ C (.f 10 [] []) [ta,tb] h n Q:=by
 refine τ.go hC.f10 U ?_;obtain⟨cs,hs⟩:=kX.sl;obtain⟨yY,tR⟩:=lO.sl;refine ζ<|γ U<|ε ?_;refine ξ<|ζ<|γ U<|az U (hs)<|γ U<|az U (tR)<|dE U U<|ε ?_;by_cases hl:a.length=b.length
 ·refine ay U (by simp[hl])<|ae ?_;refine ξ<|ζ<|γ U<|ε ?_;exact aC<|Γ (ahZ kX lO ba hl hQ _ 0 h n rfl (by omega) (by simp) (Ext.refl _ _)) ⟨rfl,rfl,rfl,trivial⟩
 ·refine an U (by simp<;>omega) ?_;refine ζ<|γ U<|ε (Θ ⟨_,rfl,hQ false _ _ (Ext.refl _ _) (by simp only[mC,false_iff];exact λe=>hl (by rw[e]))⟩)
end
section
variable {C:Nat->Option bN}{h:Hf}{n:K}{Q:V->Hf->K->Prop}
def qH(f:Int->Int->Bool):List Int->List Int->Bool
 | a::l,b::m=>f a b&&qH f l m
 | _,_=>true
def vV(ts us:List Nd):Nat->Nat->Nat->List (S×S)->Bool
 | 0,_,_,_=>false
 | m+1,i,k,l=>match ts[i]?,us[k]? with
  | some x,some y=>
   if jL x y then false else
   match (if x.op=3 then kN x.name y.name l.reverse else none) with
   | some r=>r
   | none=>if x.name=y.name then (if mY x.vars y.vars then qH (λp q=>vV ts us m p.toNat q.toNat (l++iX x.vars y.vars)) x.kids y.kids else false) else false
  | _,_=>false
theorem Wu{ts us:List Nd}{m i k:Nat}{l:List (S×S)}(hi:i<ts.length)(hk:k<us.length):vV ts us (m+1) i k l=
 if jL ts[i] us[k] then false else
  match (if ts[i].op=3 then kN ts[i].name us[k].name l.reverse else none) with
  | some r=>r
  | none=>if ts[i].name=us[k].name then (if mY ts[i].vars us[k].vars then qH (λp q=>vV ts us m p.toNat q.toNat (l++iX ts[i].vars us[k].vars)) ts[i].kids us[k].kids else false) else false:=by
 rw[vV,fO hi,fO hk]
theorem w75(hC:Cd C){t:V}{l:List (S×S)}(ht:ep h n t l)(hlen:l.length<100000000)
 (hQ:∀b h' n',Ext h n h' n'->h' b=some (.c [t] 136 0)->b.num<n'.num->n.num<=b.num->Iter C (.f 153 [] [.p b 0]) (λh n=>b.num<n.num/\h b=some (.c [t] 136 0)/\ep h n t l) (xb (λi=>match l[i]? with | some p=>.a [st p.1,st p.2] | none=>.q) l.length)->Q (.f 153 [] [.p b 0]) h' n'):τ C (.f 75 [] []) [t] h n Q:=by
 have h1:=φ.one ht;refine τ.go hC.f75 U ?_;refine ζ<|et U (φ.cells ht) (by simp only[bE,h1];rfl) <| λh1 n1 dS a1 e1=>γ U<|ε ?_;refine ζ<|Am U U<|γ U<|ε (Θ ⟨_,rfl,hQ n h1 n1 e1 a1 (by omega) (χ _) ?_⟩);intro y I D h n2 hE hF hS h0;refine τ.go hC.f153 U ?_;obtain⟨hb,pU,ht⟩:=hF _ _ _ h0;refine ζ<|ν U (dL pU rfl _)<|az U (ht)<|iz U U ⟨by omega,by omega⟩<|γ U<|ε ?_;refine aC ?_;have key:∀(i:Nat) (h:Hf) (n':K),i<=l.length->I (l.length - i) h n'->WC C SK [(k0,y),(k1,.p n 0),(k3,.i .i64 ((i:Int) - 1))] h n' (blk 0 (fq [] (λv h' n'=>I (xb (λi=>match l[i]? with | some p=>.a [st p.1,st p.2] | none=>.q) l.length).length h' n'\/D h' n'))):=by
  intro i
  induction i with
  | zero=>
   intro h n' hi hI;refine aJ ?_;refine ξ<|ζ<|γ U<|fL U U<|ε ?_;refine ay U (by simp)<|bM ⟨_,rfl,?_⟩;rw[oM];exact Or.inl hI
  | succ i ih=>
   intro h n' hi hI;obtain⟨hb,pU,ht⟩:=hF _ _ _ hI;have Ys:((i+1:Nat):Int) - 1=(i:Int):=by omega
   rw[Ys];have ω:i<l.length:=by omega
   refine aJ ?_;refine ξ<|ζ<|γ U<|fL U U<|ε ?_;refine an U (by simp)<|ae ?_;refine ξ<|aC<|ζ<|γ U<|γ U<|ν U (dL pU rfl _)<|γ U<|bj U U ht ω<|ν U (ht.nF ω)<|ak U U ?_;have kS:l.length - (i+1)<(xb (λi=>match l[i]? with | some p=>.a [st p.1,st p.2] | none=>.q) l.length).length:=by rw[oM];omega
   have:=hS _ kS h n' hI;rw[rN,show l.length - 1 - (l.length - (i+1))=i by omega]at this;simp only[fO ω]at this;refine τ.mono this ?_;rintro v h3 n3 (⟨rfl,hx⟩ | ⟨rfl,hx⟩)
   ·refine di U<|ε<|ay U U<|ae ?_;refine aL<|γ U<|iz U U ⟨by omega,by omega⟩<|γ U<|ε ?_;rw[show l.length - (i+1)+1=l.length - i by omega]at hx;exact Γ (ih h3 n3 (by omega) hx) ⟨rfl,rfl,rfl,trivial⟩
   ·refine di U<|ε<|an U U<|Θ ⟨_,rfl,Or.inr hx⟩
 exact Γ (key l.length h n2 (by omega) (by rw[qc];exact h0)) ⟨rfl,rfl,rfl,trivial⟩
theorem w76(hC:Cd C){t:V}{l:List (S×S)}(ht:ep h n t l)(hlen:l.length<20000000)
 (hQ:∀v' h' n',Ext h n h' n'->Ow h' n' 141 2 v' l.length (lh l)->(v'=.ns\/n.num<=v'.blk.num)->Q v' h' n'):τ C (.f 76 [] []) [t] h n Q:=by
 refine τ.go hC.f76 U ?_;refine ζ<|γ U<|ε ?_;have go:pk .eql (.one .slice) t .ns=some (.b false)->WC C SL [(k0,t)] h n (fq [.t k2] Q):=by intro hv;refine ξ<|ζ<|γ U<|K0 U U (hv)<|ε ?_;refine ay U U<|ae ?_;refine ζ<|lu U <| λh1 n1 dS a1 e1=>γ U<|Wl U (φ.whole (len:=0) (by omega) a1 rfl) U (ht.ext e1) (by omega) (by omega) (by omega) <| λv3 h3 n3 o3 e3 p3=>γ U<|ε ?_;exact Θ ⟨_,rfl,hQ v3 h3 n3 (e1.trans e3) o3 (p3.imp id λh=>by rcases h with h | h<;>rw[h]<;>omega)⟩
 obtain⟨g1,g2⟩:=id ht;rcases g2 with g | ⟨⟨b,o,c,g,_⟩,_⟩
 ·have hl:l=[]:=xG.1 g.2;rw[g.1];refine ξ<|ζ<|γ U<|K0 U U (rfl)<|ε ?_;refine an U U ?_;refine ζ<|γ U<|ε ?_;refine Θ ⟨_,rfl,hQ .ns h n (Ext.refl h n) (Or.inl ⟨?_,Or.inl U⟩) (Or.inl U)⟩;rw[hl];exact ig.ns h 141 2
 ·refine Γ (go ?_) ⟨rfl,trivial⟩;rcases g with g | g
  ·rw[g.1];rfl
  ·rw[g];rfl
end
section
variable {C:Nat->Option bN}{h:Hf}{n:K}{Q:V->Hf->K->Prop}
section
variable {x y:Nd}{vx kx vy ky:V}{fT bx ie:K}{hs:Hf}{ns:K}
theorem ah0(hC:Cd C){v0 v1 vl:V}{l:List (S×S)}(hl:ep h n vl l)(tt:l.length<20000000)(pd:Cl h n fT [.b false] 4)(cx:Cl h n bx (cR x vx kx) 69)(cy:Cl h n ie (cR y vy ky) 69)(hx:Ext hs ns h n)(ah1:ns.num<=fT.num){Q1:Ex->Env->Hf->K->Prop}
 (kL:∀r E' h' n',kN x.name y.name l.reverse=some r->Ext hs ns h' n'->lk E' aA=some (.p fT 0)->Cl h' n' fT [.b r] 4->Q1 .ret E' h' n')
 (jj:kN x.name y.name l.reverse=none->∀E' h' n',Ext h n h' n'->dK [(k0,v0),(k1,v1),(k4,vl),(aA,.p fT 0),(aE,.p bx 0),(aF,.p ie 0)] E'->Q1 .normal E' h' n'):
 WC C SE [(k0,v0),(k1,v1),(k4,vl),(aA,.p fT 0),(aE,.p bx 0),(aF,.p ie 0)] h n Q1:=by
 refine ζ<|γ U<|ak U U<|w75 hC hl (by omega) ?_;intro b h4 n4 x4 a4 zW VN it;refine ε<|aC ?_;have y4:=x4.1;let I:Nat->Hf->K->Prop:=λj h' n'=>Ext h n h' n'/\(b.num<n'.num/\h' b=some (.c [vl] 136 0))/\kN x.name y.name (l.take (l.length - j)).reverse=kN x.name y.name l.reverse;let D:Ex->Hf->K->Prop:=λex h' n'=>ex=.ret/\∃r,kN x.name y.name l.reverse=some r/\Ext hs ns h' n'/\Cl h' n' fT [.b r] 4;refine An U it I D ?_ ?_ ?_ ?_ ?_ ?_ ?_ ?_
 ·rintro j h1 n1 h' n' ⟨g1,⟨g2,g3⟩,g5⟩ ex;exact⟨g1.trans ex,⟨fk g2 ex.1,by rw[ex.2 _ g2];exact g3⟩,g5⟩
 ·rintro j h1 n1 h' ⟨g1,⟨g2,g3⟩,g5⟩ bt;exact⟨g1.aj bt (by omega),⟨g2,by rw[bt _ (by omega)];exact g3⟩,g5⟩
 ·rintro j h1 n1 ⟨g1,g2,_⟩;exact⟨g2.1,g2.2,hl.ext g1⟩
 ·intro j hj;rw[rN];rfl
 ·intro h' bt;have Nl:n4.succ.num=n4.num+1:=K.fQ n4;exact⟨(x4.aj bt (by omega)).succ,⟨by omega,by rw[bt _ (by omega)];exact a4⟩,by rw[qb,gM]⟩
 ·rintro j hj h1 m1 E1 oZ ⟨g1,⟨g2,g3⟩,g5⟩ jb;have eN:j<l.length:=by rw[oM]at hj;exact hj
  rw[rN]at jb;simp only[lV,p7]at jb;subst jb;have ω:l.length - 1 - j<l.length:=by omega
  rw[fO ω];rw[show l.length - j=(l.length - 1 - j)+1 by omega,Wm ω,kN]at g5;generalize hp:l[l.length - 1 - j]=p at*;refine aL<|du <| λh5 n5 xz a5 e5=>bL U U a5 (dW rfl rfl rfl) <| λh6 a6 b6=>ε ⟨rfl,by rw[b6 _ (by omega),e5.2 _ oZ],λh7 b7=>?_⟩;have YS:Cl h7 n5 m1 [st p.1,st p.2] 141:=Cl.aj ⟨by omega,a6⟩ b7 (by omega);have x6:Ext h n h6 n5:=(g1.trans e5).aj b6 (by have:=g1.1;omega);have x7:Ext h n h7 n5:=x6.aj b7 (by omega);have d10:=pd.ext x7;have dx:=cx.ext x7;have dy:=cy.ext x7;have lx:aX h7 false 1 (.p bx (0+2))=some (st x.name):=dx.ld U _;have ly:aX h7 false 1 (.p ie (0+2))=some (st y.name):=dy.ld U _;have l0:aX h7 false 1 (.p m1 (0+0*1))=some (st p.1):=YS.ld U _;have l1:aX h7 false 1 (.p m1 (0+1*1))=some (st p.2):=YS.ld U _;have sN:=g1.1;have kC:=pd.1;have fin:(p.1=x.name\/p.2=y.name)->∀E,dK [(aA,.p fT 0),(aE,.p bx 0),(aF,.p ie 0),(aP,.p m1 0),(pR,.b true)] E->WC C SD E h7 n5 (blk 1 (rnd n4 (h7 n4) (I (j+1)) D)):=by intro ho E hE;refine dQ hE ?_;refine an U U ?_;rw[au ho]at g5;refine ζ<|ν U (bQ YS.2 rfl)<|ρ U<|ν U (lx)<|ρ U<|ν U (ly)<|mc (rfl)<|K0 U U (Wr p (x.name,y.name))<|bL U U (d10.2) (rfl) <| λh8 a8 b8=>ε ?_;refine Θ ⟨by omega,b8 _ (by omega),rfl,_,g5.symm,(hx.trans x7).aj b8 ah1,⟨d10.1,?_⟩⟩;rw[a8];have:decide (p=(x.name,y.name))=decide (p.1=x.name/\p.2=y.name):=decide_eq_decide.2 ⟨λe=>by rw[e];exact⟨rfl,rfl⟩,λe=>Prod.ext e.1 e.2⟩;rw[this]
  refine aC ?_;by_cases q1:p.1=x.name
  ·refine ζ<|wT (i:=0) U U (by decide)<|ν U (l0)<|ρ U<|ν U (lx)<|en U U<|γ U<|μ U (by simp[q1])<|μ U (by simp[q1])<|μ U (by simp[q1])<|μ U (by simp[q1])<|μ U (by simp[q1])<|aS U (by simp[q1]) U<|ε ?_;exact fin (Or.inl q1) _ ⟨rfl,rfl,rfl,rfl,rfl,trivial⟩
  ·by_cases q2:p.2=y.name
   ·refine ζ<|wT (i:=0) U U (by decide)<|ν U (l0)<|ρ U<|ν U (lx)<|en U U<|γ U<|κ U (by simp[q1])<|wT (i:=1) U U (by decide)<|κ U (by simp[q1])<|ν U (l1)<|κ U (by simp[q1])<|ρ U<|κ U (by simp[q1])<|ν U (ly)<|κ U (by simp[q1])<|en U U<|aK U (by simp[q1]) U<|ε ?_;exact fin (Or.inr q2) _ ⟨rfl,rfl,rfl,rfl,by show some (V.b _)=_;simp[q2],trivial⟩
   ·refine ζ<|wT (i:=0) U U (by decide)<|ν U (l0)<|ρ U<|ν U (lx)<|en U U<|γ U<|κ U (by simp[q1])<|wT (i:=1) U U (by decide)<|κ U (by simp[q1])<|ν U (l1)<|κ U (by simp[q1])<|ρ U<|κ U (by simp[q1])<|ν U (ly)<|κ U (by simp[q1])<|en U U<|aK U (by simp[q1]) U<|ε ?_;rw[Ξ (by simp[q1,q2])]at g5;refine ay U (by simp[q2])<|ae ⟨by omega,rfl,x7,⟨by omega,by rw[b7 _ (by omega),b6 _ (by omega),e5.2 _ g2];exact g3⟩,?_⟩;rw[show l.length - (j+1)=l.length - 1 - j by omega];exact g5
 ·rintro h' n' wj ⟨g1,⟨g2,g3⟩,g5⟩;rw[oM,qc]at g5;exact jj g5.symm _ _ _ g1 ⟨rfl,rfl,rfl,rfl,rfl,rfl,trivial⟩
 ·rintro ex h' n' h2 oZ ⟨rfl,r,g1,g2,g3⟩ bt;have qS:=hx.1;have kC:=pd.1;exact kL r _ _ _ g1 (g2.aj bt (by omega)) U (g3.aj bt (by omega))
theorem ah2{v0 v1:V}{l:List (S×S)}{h0:Hf}{n0:K}(hx:ep h0 n0 vx x.vars)(hy:ep h0 n0 vy y.vars)(sd:x.vars.length=y.vars.length)(hvx:x.vars.length<1000)(tt:l.length+1000<20000000)
 (pd:Cl h0 n0 fT [.b false] 4)(cx:Cl h0 n0 bx (cR x vx kx) 69)(cy:Cl h0 n0 ie (cR y vy ky) 69){Q1:Ex->Env->Hf->K->Prop}
 (ah3:∀h n E',Ext h0 n0 h n->mY x.vars y.vars=false->lk E' aA=some (.p fT 0)->∀h2,de fT h h2->h2 fT=some (.c [.b false] 4 0)->Q1 .ret E' h2 n)
 (jj:∀vi h n E',Ext h0 n0 h n->mY x.vars y.vars=true->Ow h n 141 2 vi (l.length+x.vars.length) (lh (l++iX x.vars y.vars))->dK [(k0,v0),(k1,v1),(k4,vi),(aA,.p fT 0),(aE,.p bx 0),(aF,.p ie 0)] E'->Q1 .normal E' h n):
 ∀(m i:Nat) (vi:V) (h:Hf) (n:K),x.vars.length - i=m->i<=x.vars.length->mY (x.vars.drop i) (y.vars.drop i)=mY x.vars y.vars->Ext h0 n0 h n->Ow h n 141 2 vi (l.length+i) (lh (l++iX (x.vars.take i) (y.vars.take i)))->(vi=.ns\/n0.num<=vi.blk.num)->WC C SF [(k0,v0),(k1,v1),(k4,vi),(aA,.p fT 0),(aE,.p bx 0),(aF,.p ie 0),(qp,vx),(qX,.i .i64 (x.vars.length:Nat)),(mz,.i .i64 (i:Nat))] h n (blk 2 Q1):=by
 intro m
 induction m with
 | zero=>
  intro i vi h n hm hi hs he ho Nc;have:i=x.vars.length:=by omega
  subst this;refine aJ ?_;refine ζ<|aO U U<|ε ?_;refine ξ<|ay U (by simp)<|bM (jj vi h n _ he ?_ ?_ ⟨rfl,rfl,rfl,rfl,rfl,rfl,trivial⟩)
  ·rw[←hs,gY];rfl
  ·rw[gM,show y.vars.take x.vars.length=y.vars by rw[sd,gM]]at ho;exact ho
 | succ m ih=>
  intro i vi h n hm hi hs he ho Nc;have ω:i<x.vars.length:=by omega
  have cZ:i<y.vars.length:=by omega
  have jV:=hx.ext he;rw[Wp ω cZ]at hs;refine aJ ?_;refine ζ<|aO U U<|ε ?_;refine ξ<|an U (by simp<;>omega)<|ae ?_;refine ξ<|aC<|ζ<|γ U<|bj U U (jV) (ω)<|ν U (jV.nF ω)<|du <| λh1 n1 dS a1 e1=>γ U<|bL U U (a1) (dW rfl rfl rfl) <| λh2 a2 b2=>ε ?_;have x2:Ext h n h2 n1:=e1.aj b2 (χ _);have yZ:=he.trans x2;have d2:=cy.ext yZ;have Ac:=hy.ext yZ;have Nf:aX h2 false 1 (.p ie (0+3))=some vy:=d2.ld U _;have ah4:aX h2 false 1 (.p n (0+0))=some (st x.vars[i].1):=dL a2 rfl _;have ah5:aX h2 false 1 (.p n (0+1))=some (st x.vars[i].2):=dL a2 rfl _;have Dj:bB n1 vy=true:=φ.below Ac (χ _);have Ng:=φ.da hy;have sy:=ho.ext x2;have aus:=x2.1;have aut:=he.1;refine ξ<|dh<|bX U<|aD U (ah5) U (fA _ _)<|bX U<|aD U (Nf) (Dj) (Ng)<|ao U<|cX U U (Ac) (cZ)<|bX U<|aD U (Ac.sort cZ _) U (fA _ _)<|Rs U U<|cG (by simp[AG,gP,jW,Nat.testBit]) ?_;by_cases Dk:x.vars[i].2=y.vars[i].2
  ·refine ay U (by simp[Dk])<|ae ?_;rw[show decide (x.vars[i].2=y.vars[i].2)=true by simp[Dk],wz]at hs;refine uG<|ao U<|bX U<|aD U (ah4) U (fA _ _)<|bX U<|aD U (Nf) (Dj) (Ng)<|ao U<|cX U U (Ac) (cZ)<|bX U<|aD U (Ac.name cZ _) U (fA _ _)<|wR (rfl)<|rK U <| λh3 n3 og a3 e3=>Wk U ((show Ow _ n3 141 2 vi _ _ from sy.ext e3)) U (φ.whole (len:=1) (by omega) a3 rfl) (by omega) (by omega) (by omega) (by omega) U <| λv4 h4 n4 o4 q4 wj s4=>ao U<|cG (⟨⟨Ω (by simp[Nat.testBit]),trivial⟩,⟨Ω (by simp[Nat.testBit]),trivial⟩,⟨Ω (by simp[Nat.testBit]),trivial⟩,trivial⟩) ?_;have De:=yZ.trans e3;have x4:Ext h0 n0 h4 n4:=by
    refine⟨by have:=De.1;omega,λk hk=>?_⟩;have:=De.1;exact(s4 k (by omega) (Nc.imp id λh=>by omega)).trans (De.2 k hk)
   refine aL<|cU U U ⟨by omega,by omega⟩<|γ U<|ε ?_;refine Γ (ih (i+1) v4 h4 n4 (by omega) (by omega) hs x4 ?_ (Or.inr (by rw[q4];have:=De.1;omega))) ⟨rfl,rfl,rfl,rfl,rfl,rfl,rfl,rfl,rfl,trivial⟩;rw[Wn ω cZ,←Bz,Q5];exact o4
  ·refine an U (by simp[Dk]) ?_;rw[show decide (x.vars[i].2=y.vars[i].2)=false by simp[Dk],wx]at hs;have d10:=pd.ext yZ;refine ζ<|bL U U (d10.2) (rfl) <| λh5 a5 b5=>ε ?_;exact Θ (ah3 h2 n1 _ yZ hs.symm U h5 b5 a5)
theorem ah6{f:Int->Int->Bool}{a b:List Int}{i:Nat}(h1:i<a.length)(h2:i<b.length):qH f (a.drop i) (b.drop i)=(f a[i] b[i]&&qH f (a.drop (i+1)) (b.drop (i+1))):=by rw[fC h1,fC h2,qH]
theorem ah7{ta tb vi:V}{F:Int->Int->Bool}{h0:Hf}{n0:K}(ix:eL h0 n0 .i64 kx x.kids)(iy:eL h0 n0 .i64 ky y.kids)(fm:x.kids.length=y.kids.length)(YT:x.kids.length<1000000)
 (pd:Cl h0 n0 fT [.b false] 4)(cx:Cl h0 n0 bx (cR x vx kx) 69)(cy:Cl h0 n0 ie (cR y vy ky) 69)
 (ih:∀(j:Nat) (h1:j<x.kids.length) (h2:j<y.kids.length) (h:Hf) (n:K) (Q:V->Hf->K->Prop),Ext h0 n0 h n->(∀h' n',Ext h n h' n'->Q (.b (F x.kids[j] y.kids[j])) h' n')->τ C (.f 27 [] []) [ta,tb,.i .i64 x.kids[j],.i .i64 y.kids[j],vi] h n Q)
 (hQ:∀h' n',Ext h0 n0 h' n'->∀h2,de fT h' h2->h2 fT=some (.c [.b (qH F x.kids y.kids)] 4 0)->Q (.b (qH F x.kids y.kids)) h2 n'):
 ∀(r i:Nat) (h:Hf) (n:K),x.kids.length - i=r->i<=x.kids.length->qH F (x.kids.drop i) (y.kids.drop i)=qH F x.kids y.kids->Ext h0 n0 h n->WC C SG [(k0,ta),(k1,tb),(k4,vi),(aA,.p fT 0),(aE,.p bx 0),(aF,.p ie 0),(nH,.i .i64 (x.kids.length:Nat)),(pz,.i .i64 (i:Nat))] h n (blk 4 (sq C SH (fq [.cell aA false 1] Q))):=by
 intro r
 induction r with
 | zero=>
  intro i h n hr hi hz he;have:i=x.kids.length:=by omega
  subst this;have d10:=pd.ext he;refine aJ ?_;refine ζ<|aO U U<|ε ?_;refine ξ<|ay U (by simp)<|bM ?_;rw[gY]at hz;rw[←hz]at hQ;refine ζ<|bL U U (d10.2) (rfl) <| λh5 a5 b5=>ε ?_;exact Θ ⟨_,iO rfl (dL a5 rfl _),hQ h n he h5 b5 a5⟩
 | succ r qf=>
  intro i h n hr hi hz he;have ω:i<x.kids.length:=by omega
  have cZ:i<y.kids.length:=by omega
  rw[ah6 ω cZ]at hz;have d10:=pd.ext he;have dx:=cx.ext he;have dy:=cy.ext he;have Jb:=ix.ext he;have ON:=iy.ext he;have lx:aX h false 1 (.p bx (0+4))=some kx:=dx.ld U _;have ly:aX h false 1 (.p ie (0+4))=some ky:=dy.ld U _;refine aJ ?_;refine ζ<|aO U U<|ε ?_;refine ξ<|an U (by simp<;>omega)<|ae ?_;refine ξ<|aC<|ζ<|γ U<|γ U<|ε ?_;refine dh<|ao U<|ao U<|bX U<|aD U (lx) (φ.below Jb (χ _)) (φ.da Jb)<|ao U<|cX U U (Jb) (ω)<|aD U (Jb.get ω _) U (fK _ _)<|bX U<|aD U (ly) (φ.below ON (χ _)) (φ.da ON)<|ao U<|cX U U (ON) (cZ)<|aD U (ON.get cZ _) U (fK _ _)<|ao U<|cj U U<|ih i ω cZ h n _ he <| λh1 n1 e1=>rJ U<|cG (by simp[AG,gP,jW,Nat.testBit]) ?_;refine cB U (λhx=>?_) (λhx=>ae ?_)
  ·have hx:F x.kids[i] y.kids[i]=false:=by simpa using hx
   rw[hx,wx]at hz;rw[←hz]at hQ;have f10:=d10.ext e1;refine ζ<|bL U U (f10.2) (rfl) <| λh5 a5 b5=>ε ?_;exact Θ ⟨_,iO rfl (dL a5 rfl _),hQ _ _ (he.trans e1) h5 b5 a5⟩
  ·have hx:F x.kids[i] y.kids[i]=true:=by simpa using hx
   rw[hx,wz]at hz;refine aL<|cU U U ⟨by omega,by omega⟩<|γ U<|ε ?_;exact Γ (qf (i+1) h1 n1 (by omega) (by omega) hz (he.trans e1)) ⟨rfl,rfl,rfl,rfl,rfl,rfl,rfl,rfl,trivial⟩
end
end
section
variable {C:Nat->Option bN}{h:Hf}{n:K}{Q:V->Hf->K->Prop}
theorem w27(hC:Cd C){ts us:List Nd}(ra:Rt ts)(rb:Rt us):∀(m i k:Nat) (ta tb vl:V) (l:List (S×S)) (h:Hf) (n:K) (Q:V->Hf->K->Prop),i<m->i<ts.length->k<us.length->dA h n ta ts->dA h n tb us->ep h n vl l->l.length+1000*m<=19000000->(∀h' n',Ext h n h' n'->Q (.b (vV ts us m i k l)) h' n')->τ C (.f 27 [] []) [ta,tb,.i .i64 (i:Nat),.i .i64 (k:Nat),vl] h n Q:=by
 intro m
 induction m with
 | zero=>intro i k ta tb vl l h n Q hm;omega
 | succ m ih=>
  intro i k ta tb vl l h n Q hm hi hk kX lO hl tt hQ;rw[Wu hi hk]at hQ;have sd:=ra.bd.vl _ hi;have fm:=ra.bd.pX _ hi;have YT:=xc (ra.ord i hi);rw[mj hi]at YT;have hky:=Fq hk (rb.ord k hk);have la:=ra.bd.len;refine τ.go hC.f27 U ?_;refine ζ<|du <| λh0 n0 Gy a0 e0=>ε ?_;have Nm:=kX.ext e0;have Nn:=lO.ext e0;have c0:Cl h0 n0 n [.b false] 4:=⟨by omega,a0⟩;obtain⟨cs,hs⟩:=Nm.sl;obtain⟨vx,kx,xx⟩:=Nm.node hi;obtain⟨yY,tR⟩:=Nn.sl;obtain⟨vy,ky,yy⟩:=Nn.node hk;have o1:=kc ts[i] (φ.one xx.vars) (φ.one xx.kids);have o2:=kc us[k] (φ.one yy.vars) (φ.one yy.kids);have be:∀{x:Nd} {v k:V},ep h0 n0 v x.vars->eL h0 n0 .i64 k x.kids->bB n0 (.a (cR x v k))=true:=by intro x v k g1 g2;have h1:=φ.below g1 (χ n0.num);have h2:=φ.below g2 (χ n0.num);simp only[bB,cR,gn,h1,h2];rfl
  have ve:∀{x:Nd} {v k:V},ep h0 n0 v x.vars->eL h0 n0 .i64 k x.kids->cT (.a (cR x v k)) (.a (cR x v k))=true:=by intro x v k g1 g2;have h1:=φ.da g1;have h2:=φ.da g2;simp only[cT,cR];exact jX (fK _ _) (jX (fA _ _) (jX (fA _ _) (jX h1 (jX h2 rfl))))
  have FB:∀{H:Hf},Ag n0 h0 H->aX H true 5 (.p tb.blk (tb.off+k*5))=some (.a (cR us[k] vy ky)):=λag=>(yy.ext (ag.x (χ _))).all;refine dh<|ao U<|ao U<|cX U U (hs) (hi)<|aD U (xx.all) (be xx.vars xx.kids) (ve xx.vars xx.kids)<|ao U<|ao U<|cX U U (tR) (hk)<|aD U (yy.all) (be yy.vars yy.kids) (ve yy.vars yy.kids)<|sZ <| λh1 n1 dS a1 e1=>sZ <| λh2 n2 iL a2 e2=>fV U U ((fR h2 n0 (h1 n0)).trans a1) (dW rfl rfl o1) <| λh3 a3 b3=>fV U U ((b3 n1 (by omega)).trans ((CG (h:=h2) (b:=n0) (o:=h1 n0) (by omega)).trans a2)) (dW rfl rfl o2) <| λh4 a4 b4=>cG (⟨⟨Ω (by simp[Nat.testBit]),dj (FB (((((e1.ag.hp n0 none (χ _)).ext e2 (by omega)).hp n0 (h1 n0) (χ _)).hp n1 none (by omega)).hp n0 none (χ _))) (FB ((((((e1.ag.hp n0 none (χ _)).ext e2 (by omega)).hp n0 (h1 n0) (χ _)).aj b3 (χ _)).hp n1 none (by omega)).hp n0 none (χ _))),trivial⟩,⟨Ω (by simp[Nat.testBit]),Ω (by simp[Nat.testBit]),trivial⟩,trivial⟩) ?_;have xf:de n0 (hp h2 n0 (h1 n0)) h3:=b3;have ny:de n1 h3 h4:=b4;have YR:Ag n0 h0 h4:=((((e1.ag.hp n0 none (χ _)).ext e2 (by omega)).hp n0 (h1 n0) (χ _)).aj xf (χ _)).aj ny (by omega);have AX:Ext h0 n0 h4 n2:=YR.x (by omega);have cx:Cl h4 n2 n0 (cR ts[i] vx kx) 69:=⟨by omega,(ny n0 (by omega)).trans a3⟩;have cy:Cl h4 n2 n1 (cR us[k] vy ky) 69:=⟨by omega,a4⟩;have bx:=xx.vars.ext AX;have ix:=xx.kids.ext AX;have ie:=yy.vars.ext AX;have iy:=yy.kids.ext AX;have pd:=c0.ext AX;have hl4:=(hl.ext e0).ext AX;have x4:Ext h n h4 n2:=e0.trans AX;generalize hx:ts[i]=x at*;generalize hy:us[k]=y at*;have tB:aX h4 false 1 (.p n0 (0+0))=some (.i .i64 x.op):=cx.ld U _;have zm:aX h4 false 1 (.p n0 (0+1))=some (st x.sort):=cx.ld U _;have Jy:aX h4 false 1 (.p n0 (0+2))=some (st x.name):=cx.ld U _;have Ni:aX h4 false 1 (.p n0 (0+3))=some vx:=cx.ld U _;have Fx:aX h4 false 1 (.p n0 (0+4))=some kx:=cx.ld U _;have wo:aX h4 false 1 (.p n1 (0+0))=some (.i .i64 y.op):=cy.ld U _;have zp:aX h4 false 1 (.p n1 (0+1))=some (st y.sort):=cy.ld U _;have Jz:aX h4 false 1 (.p n1 (0+2))=some (st y.name):=cy.ld U _;have Nj:aX h4 false 1 (.p n1 (0+3))=some vy:=cy.ld U _;have Fy:aX h4 false 1 (.p n1 (0+4))=some ky:=cy.ld U _;have no:jL x y=true->WC C SC [(aA,.p n 0)] h4 n2 (sq C SJ (fq [.cell aA false 1] Q)):=by intro hu;rw[hu]at hQ;refine ζ<|bL U U (pd.2) (rfl) <| λh5 a5 b5=>ε ?_;exact Θ ⟨_,iO rfl (dL a5 rfl _),hQ _ _ (x4.aj b5 (χ _))⟩
  by_cases u1:x.op=y.op
  case neg=>
   refine ξ<|ζ<|ρ U<|ν U (tB)<|ρ U<|ν U (wo)<|dE U U<|γ U<|μ U (by simp[u1])<|μ U (by simp[u1])<|μ U (by simp[u1])<|μ U (by simp[u1])<|μ U (by simp[u1])<|aS U (by simp[u1]) U<|γ U<|μ U (rfl)<|μ U (rfl)<|μ U (rfl)<|μ U (rfl)<|μ U (rfl)<|μ U (rfl)<|μ U (rfl)<|aS U (rfl) U<|γ U<|μ U (rfl)<|μ U (rfl)<|μ U (rfl)<|μ U (rfl)<|μ U (rfl)<|μ U (rfl)<|μ U (rfl)<|aS U (rfl) U<|ε ?_;exact an U U<|Γ (no (by simp[jL,u1])) ⟨rfl,trivial⟩
  by_cases u2:x.sort=y.sort
  case neg=>
   refine ξ<|ζ<|ρ U<|ν U (tB)<|ρ U<|ν U (wo)<|dE U U<|γ U<|κ U (by simp[u1])<|ρ U<|κ U (by simp[u1])<|ν U (zm)<|κ U (by simp[u1])<|ρ U<|κ U (by simp[u1])<|ν U (zp)<|κ U (by simp[u1])<|iP U U<|aK U (by simp[u1]) U<|γ U<|μ U (by simp[u2])<|μ U (by simp[u2])<|μ U (by simp[u2])<|μ U (by simp[u2])<|μ U (by simp[u2])<|μ U (by simp[u2])<|μ U (by simp[u2])<|aS U (by simp[u2]) U<|γ U<|μ U (rfl)<|μ U (rfl)<|μ U (rfl)<|μ U (rfl)<|μ U (rfl)<|μ U (rfl)<|μ U (rfl)<|aS U (rfl) U<|ε ?_;exact an U U<|Γ (no (by simp[jL,u2])) ⟨rfl,trivial⟩
  by_cases u3:x.kids.length=y.kids.length
  case neg=>
   refine ξ<|ζ<|ρ U<|ν U (tB)<|ρ U<|ν U (wo)<|dE U U<|γ U<|κ U (by simp[u1])<|ρ U<|κ U (by simp[u1])<|ν U (zm)<|κ U (by simp[u1])<|ρ U<|κ U (by simp[u1])<|ν U (zp)<|κ U (by simp[u1])<|iP U U<|aK U (by simp[u1]) U<|γ U<|κ U (by simp[u2])<|ρ U<|κ U (by simp[u2])<|ν U (Fx)<|κ U (by simp[u2])<|az U (ix)<|κ U (by simp[u2])<|ρ U<|κ U (by simp[u2])<|ν U (Fy)<|κ U (by simp[u2])<|az U (iy)<|κ U (by simp[u2])<|dE U U<|aK U (by simp[u2]) U<|γ U<|μ U (by simp<;>omega)<|μ U (by simp<;>omega)<|μ U (by simp<;>omega)<|μ U (by simp<;>omega)<|μ U (by simp<;>omega)<|μ U (by simp<;>omega)<|μ U (by simp<;>omega)<|aS U (by simp<;>omega) U<|ε ?_;exact an U U<|Γ (no (by simp[jL,u3])) ⟨rfl,trivial⟩
  refine ξ<|ζ<|ρ U<|ν U (tB)<|ρ U<|ν U (wo)<|dE U U<|γ U<|κ U (by simp[u1])<|ρ U<|κ U (by simp[u1])<|ν U (zm)<|κ U (by simp[u1])<|ρ U<|κ U (by simp[u1])<|ν U (zp)<|κ U (by simp[u1])<|iP U U<|aK U (by simp[u1]) U<|γ U<|κ U (by simp[u2])<|ρ U<|κ U (by simp[u2])<|ν U (Fx)<|κ U (by simp[u2])<|az U (ix)<|κ U (by simp[u2])<|ρ U<|κ U (by simp[u2])<|ν U (Fy)<|κ U (by simp[u2])<|az U (iy)<|κ U (by simp[u2])<|dE U U<|aK U (by simp[u2]) U<|γ U<|κ U (by simp<;>omega)<|ρ U<|κ U (by simp<;>omega)<|ν U (Ni)<|κ U (by simp<;>omega)<|az U (bx)<|κ U (by simp<;>omega)<|ρ U<|κ U (by simp<;>omega)<|ν U (Nj)<|κ U (by simp<;>omega)<|az U (ie)<|κ U (by simp<;>omega)<|dE U U<|aK U (by simp<;>omega) U<|ε ?_;by_cases u4:x.vars.length=y.vars.length
  case neg=>exact an U (by simp<;>omega)<|Γ (no (by simp[jL,u4])) ⟨rfl,trivial⟩
  refine ay U (by simp<;>omega)<|ae ?_;have hu:jL x y=false:=by simp[jL,u1,u2,u3,u4]
  rw[hu]at hQ;simp only[mC,if_false]at hQ;have rest:∀h5 n5,Ext h4 n2 h5 n5->(if x.op=3 then kN x.name y.name l.reverse else none)=none->WC C SI [(k0,ta),(k1,tb),(k4,vl),(aA,.p n 0),(aE,.p n0 0),(aF,.p n1 0)] h5 n5 (fq [.cell aA false 1] Q):=by
   intro h5 n5 e5 hU;rw[hU]at hQ;simp only at hQ;have d10:=pd.ext e5;have dx:=cx.ext e5;have dy:=cy.ext e5;have mx2:aX h5 false 1 (.p n0 (0+2))=some (st x.name):=dx.ld U _;have my2:aX h5 false 1 (.p n1 (0+2))=some (st y.name):=dy.ld U _;refine ξ<|ζ<|ρ U<|ν U (mx2)<|ρ U<|ν U (my2)<|iP U U<|ε ?_;by_cases ka:x.name=y.name
   case neg=>
    refine an U (by simp[ka]) ?_;rw[Ξ ka]at hQ;refine ζ<|bL U U (d10.2) (rfl) <| λh6 a6 b6=>ε ?_;exact Θ ⟨_,iO rfl (dL a6 rfl _),hQ _ _ ((x4.trans e5).aj b6 (χ _))⟩
   refine ay U (by simp[ka])<|ae ?_;rw[au ka]at hQ;refine ζ<|γ U<|ak U U<|w76 hC (hl4.ext e5) (by omega) <| λv6 h6 n6 e6 o6 p6=>γ U<|ε ?_;have xC:=e5.trans e6;have f10:=pd.ext xC;have fx:=cx.ext xC;have fy:=cy.ext xC;have OM:=bx.ext xC;have YN:=ie.ext xC;have gx3:aX h6 false 1 (.p n0 (0+3))=some vx:=fx.ld U _;have JA:=Wo u4;refine ξ<|ζ<|ρ U<|ν U (gx3)<|az U (OM)<|γ U<|ε ?_;have d45:=e5.1;refine aC<|Γ (ah2 (v0:=ta) (v1:=tb) (l:=l) (h0:=h5) (n0:=n5) (bx.ext e5) (ie.ext e5) u4 sd (by omega) d10 dx dy ?_ ?_ _ 0 v6 h6 n6 rfl (by omega) (by simp) e6 (by simpa[iX]using o6) p6) ⟨rfl,rfl,rfl,rfl,rfl,rfl,rfl,rfl,rfl,trivial⟩
   ·intro h9 n9 E9 e9 xB g9 kC fT zd;refine⟨.b false,iO g9 (dL zd rfl _),?_⟩;have:=hQ kC n9 (((x4.trans e5).trans e9).aj fT (χ _));rw[xB]at this;exact this
   ·intro vi h9 n9 E9 e9 xB o9 s9;refine dQ s9 ?_;rw[xB,au rfl]at hQ;have GB:=e5.trans e9;have YU:=pd.ext GB;have gx:=cx.ext GB;have gy:=cy.ext GB;have ix9:=ix.ext GB;have iy9:=iy.ext GB;have iB:ep h9 n9 vi (l++iX x.vars y.vars):=by
     have:=o9.sl;unfold ep;rw[oi,JA];exact this
    have gx4:aX h9 false 1 (.p n0 (0+4))=some kx:=gx.ld U _;refine ξ<|ζ<|ρ U<|ν U (gx4)<|az U (ix9)<|γ U<|ε ?_;refine aC<|Γ (ah7 (h0:=h9) (n0:=n9) (ta:=ta) (tb:=tb) (vi:=vi) (F:=λp q=>vV ts us m p.toNat q.toNat (l++iX x.vars y.vars)) ix9 iy9 u3 fm YU gx gy ?_ ?_ _ 0 h9 n9 rfl (by omega) (by simp) (Ext.refl _ _)) ⟨rfl,rfl,rfl,rfl,rfl,rfl,rfl,rfl,trivial⟩
    ·intro j j1 j2 h' n' Q' e' hq;have hkj:=YT x.kids[j] (fW _);have auu:=hky y.kids[j] (fW _);have r1:x.kids[j]=((x.kids[j].toNat:Nat):Int):=by omega
     have r2:y.kids[j]=((y.kids[j].toNat:Nat):Int):=by omega
     rw[r1,r2];have JB:=(AX.trans GB).trans e';exact ih x.kids[j].toNat y.kids[j].toNat ta tb vi _ h' n' Q' (by omega) (by omega) (by omega) (Nm.ext JB) (Nn.ext JB) (iB.ext e') (by simp only[oi];omega) hq
    ·intro h' n' e' h2 b2 a2;exact hQ _ _ (((x4.trans GB).trans e').aj b2 (χ _))
  refine ξ<|ζ<|ρ U<|ν U (tB)<|bm U U<|ε ?_;by_cases h3:x.op=3
  ·refine an U (by simp[h3]) ?_;refine Γ (ah0 hC (v0:=ta) (v1:=tb) (hs:=h) (ns:=n) hl4 (by omega) pd cx cy x4 (χ _) ?_ ?_) ⟨rfl,rfl,rfl,rfl,rfl,rfl,trivial⟩
   ·intro r E' h' n' g1 g2 g3 g4;refine⟨.b r,iO g3 (dL g4.2 rfl _),?_⟩;have:=hQ _ _ g2;rw[au h3,g1]at this;exact this
   ·intro g1 E' h' n' g2 s1;exact dQ s1 (rest h' n' g2 (by rw[au h3];exact g1))
  ·refine ay U (by simp[h3])<|ae ?_;exact Γ (rest h4 n2 (Ext.refl _ _) (by rw[Ξ h3])) ⟨rfl,rfl,rfl,rfl,rfl,rfl,trivial⟩
end
section
variable {C:Nat->Option bN}{h:Hf}{n:K}{Q:V->Hf->K->Prop}
theorem aia(hC:Cd C){s:S}{c:Nat}(hc:c<256)(hQ:Q (.i .i64 (bI c s)) h n):τ C (.f 232 [] []) [st s,.i .u8 (c:Nat)] h n Q:=by
 refine τ.pm hC.f232 λH hH=>⟨.i .i64 (bI c s),H,n,?_,by rw[hH];exact hQ⟩;show DL [.s s.length (bp s),.i .u8 (.ofNat c)] H n=_;have:Nat.blt c 256=true:=by rw[fJ];simpa using hc
 simp only[DL,this,cond_true,ac7,bI];cases ze c s 0<;>rfl
theorem Wv(hC:Cd C){s:S}{c:Nat}(hc:c<256)(hQ:Q (.i .i64 (bI c s)) h n):τ C (.f 169 [] []) [st s,.i .u8 (c:Nat)] h n Q:=by refine τ.go hC.f169 U ?_;refine ζ<|γ U<|ε ?_;refine ζ<|γ U<|γ U<|ak U U<|aia hC hc<|γ U<|ε (Θ ⟨_,rfl,hQ⟩)
theorem w96(hC:Cd C){s:S}{c:Nat}(hc:c<256)(hQ:Q (.i .i64 (bI c s)) h n):τ C (.f 96 [] []) [st s,.i .u8 (c:Nat)] h n Q:=by refine τ.go hC.f96 U ?_;refine ζ<|γ U<|ε ?_;refine ζ<|γ U<|γ U<|ak U U<|Wv hC hc<|γ U<|ε (Θ ⟨_,rfl,hQ⟩)
theorem aic(hC:Cd C){r:Nat}(hr:r<=1114111)(fE:r<55296\/57344<=r)(hQ:Q (.b true) h n):τ C (.f 274 [] []) [.i .i32 (r:Nat)] h n Q:=by
 refine τ.go hC.f274 U ?_;refine ζ<|γ U<|ε ?_;refine ξ<|aC ?_;by_cases h1:r<55296
 ·refine ζ<|γ U<|pA U U<|γ U<|κ U (by simp<;>omega)<|γ U<|κ U (by simp<;>omega)<|aO U U<|aS U (by simp<;>omega) U<|γ U<|ε ?_;refine an U (by simp<;>omega) ?_;refine ζ<|γ U<|ε (Θ ⟨_,rfl,hQ⟩)
 ·refine ζ<|γ U<|pA U U<|γ U<|κ U (by simp<;>omega)<|γ U<|κ U (by simp<;>omega)<|aO U U<|aS U (by simp<;>omega) U<|γ U<|ε ?_;refine ay U (by simp<;>omega) ?_;refine ζ<|γ U<|aO U U<|γ U<|κ U (by simp<;>omega)<|γ U<|κ U (by simp<;>omega)<|pA U U<|aS U (by simp<;>omega) U<|γ U<|ε ?_;refine an U (by simp<;>omega) ?_;refine ζ<|γ U<|ε (Θ ⟨_,rfl,hQ⟩)
theorem aid{cs:S}(jQ:∀c∈cs,c.toNat<128){b:K}{h0:Hf}{n0:K}{Q1:Ex->Env->Hf->K->Prop}(gW:n0.num<=b.num)(hQ:∀E h n,Ext h0 n0 h n->Q1 .normal E h n):∀(m pos:Nat) (h:Hf) (n:K),cs.length - pos=m->pos<=cs.length->h b=some (.it cs.length (bp cs) pos)->Ext h0 n0 h n->∀v,WC C Sr [(KX,.p b 0),(k0,v)] h n (blk 9 Q1):=by
 intro m
 induction m with
 | zero=>
  intro pos h n hm hp hb e v;refine aJ ?_;refine ζ<|Cj U (hb) (by omega)<|dG U U<|ε ?_;refine ξ ?_;exact ay U U<|bM (hQ _ _ _ e)
 | succ m ih=>
  intro pos h n hm hp hb e v;have ω:pos<cs.length:=by omega
  refine aJ ?_;refine ζ<|HQ U (hb) (by omega) <| λr w h1 R a1 b1=>dG U U<|ε ?_;refine ξ<|an U U<|ae<|aC ?_;obtain⟨er,ew⟩:=R.lo (jQ _ (fW ω));have hr:=jQ _ (fW ω);refine ζ<|dG U U<|dG U U<|γ U<|γ U<|ε ?_;refine ζ<|γ U<|bm U U<|ε ?_;refine ay U (by simp<;>omega)<|ae ?_;exact Γ (ih (pos+w) h1 n (by omega) (by omega) a1 (e.aj b1 gW) v) ⟨rfl,rfl,trivial⟩
theorem aie(hC:Cd C){cs:S}{r:Nat}(jQ:∀c∈cs,c.toNat<128)(hlen:4<=cs.length)(oY:cs.length<1000000)(hr:r<=1114111)(fE:r<55296\/57344<=r)
 (hQ:∀i:Int,(0<=i↔∃x∈cs,x.toNat=r)->∀h' n',Ext h n h' n'->Q (.i .i64 i) h' n'):τ C (.f 240 [] []) [st cs,.i .i32 (r:Nat)] h n Q:=by
 have hU:128<=r->¬ ∃x∈cs,x.toNat=r:=λh ⟨x,hx,e⟩=>by have:=jQ x hx;omega
 refine τ.go hC.f240 U ?_;refine ζ<|γ U<|ε ?_;refine aC ?_;by_cases h1:r<128
 ·refine ζ<|γ U<|pA U U<|γ U<|κ U (by simp<;>omega)<|γ U<|κ U (by simp<;>omega)<|aO U U<|aS U (by simp<;>omega) U<|γ U<|ε ?_;refine an U (by simp<;>omega) ?_;refine ζ<|γ U<|γ U<|pB U ⟨by omega,by omega⟩<|ak U U<|w96 hC (c:=r) (by omega)<|γ U<|ε (Θ ⟨_,rfl,hQ _ LD _ _ (Ext.refl _ _)⟩)
 ·refine ζ<|γ U<|pA U U<|γ U<|κ U (by simp<;>omega)<|γ U<|κ U (by simp<;>omega)<|aO U U<|aS U (by simp<;>omega) U<|γ U<|ε ?_;refine ay U (by simp<;>omega) ?_;refine ζ<|γ U<|bm U U<|γ U<|ε ?_;have neg:(0:Int) <= -1↔∃x∈cs,x.toNat=r:=⟨λh=>by omega,λh=>absurd h (hU (by omega))⟩;by_cases h2:r=65533
  ·refine an U (by simp<;>omega) ?_;refine ξ<|ζ<|γ U<|HP U <| λh1 n1 dS a1 e1=>ε ?_;refine aC<|Γ (aid jQ (h0:=h) (n0:=n) (χ _) (λE h' n' e=>?_) _ 0 h1 n1 rfl (by omega) a1 e1 _) ⟨rfl,rfl,trivial⟩;refine ζ<|γ U<|ε (Θ ⟨_,rfl,hQ _ neg _ _ e⟩)
  ·refine ay U (by simp<;>omega) ?_;refine ζ<|γ U<|ak U U<|aic hC hr fE<|di U<|γ U<|ε ?_;refine ay U U<|Kj ?_;refine ζ<|γ U<|ac6 U (by simp only[sH,fJ,jF,qa,bh,bA];omega) <| λbs qU fM y8=>γ U<|ε ?_;have hbm:=y8 (by omega);refine ζ<|γ U<|cH U<|mO U U ((show((bs.length:Nat):Int) - 1=((bs.length - 1:Nat):Int) by omega)) ⟨by omega,by omega⟩<|γ U<|ε ?_;refine ζ<|γ U<|γ U<|ε ?_;refine ζ<|γ U<|ε ?_;refine ξ<|aC<|aJ ?_;have ω:bs.length - 1<cs.length:=by omega
   have aR:cs[bs.length - 1].toNat≠bs[bs.length - 1].toNat:=by have a:=jQ _ (fW ω);have b:=hbm _ (fW (l:=bs) (n:=bs.length - 1) (by omega));omega
   refine ξ<|ζ<|γ U<|γ U<|cH U<|aO U U<|ε ?_;refine an U (by simp<;>omega)<|ae<|aC<|Kj ?_;refine ξ<|dh<|ao U<|ao U<|K1 U U (ω)<|ao U<|ao U<|K1 U U (by omega)<|Ew U U<|cG (by simp[AG,gP,jW,Nat.testBit]) ?_;refine an U (by simp<;>omega) ?_;refine dh<|ao U<|ao U<|ED U U ((show((bs.length - 1:Nat):Int)+1=((bs.length:Nat):Int) by omega)) ⟨by omega,by omega⟩<|EA U U U (by omega) (by omega)<|ao U<|ao U<|K1 U U (by omega)<|cj U U<|w96 hC (by have:=(bs[bs.length - 1]).toNat_lt;omega)<|ao U<|cG (by simp[AG,gP,jW,Nat.testBit]) ?_;refine ξ<|ζ<|γ U<|aO U U<|ε ?_;have hm:bI (bs[bs.length - 1].toNat) ((cs.drop bs.length).take (cs.length - bs.length)) = -1:=ada λ⟨x,hx,e⟩=>by have a:=jQ x (Dw (wv hx));have b:=hbm _ (fW (l:=bs) (n:=bs.length - 1) (by omega));omega
   refine an U (by simp only[hm];rfl) ?_;refine ζ<|γ U<|ε (Θ ⟨_,rfl,hQ _ neg _ _ (Ext.refl _ _)⟩)
end
section
variable {C:Nat->Option bN}{h:Hf}{n:K}{Q:V->Hf->K->Prop}
def kg(F:Nat->Bool):List V:=(List.range 256).map λj=>V.b (F j)
theorem FC(F:Nat->Bool):(kg F).length=256:=by simp[kg]
theorem aih{α:Type}(f:α->Bool):∀l:List α,bE (l.map λj=>V.b (f j))=true:=by intro l;induction l<;>simp_all [bE,V.one]
theorem Ww(F:Nat->Bool):bE (kg F)=true:=aih F _
theorem aii{α:Type}:∀{l:List α} {i:Nat} (h:i<l.length),nth l i=some l[i]:=by
 intro l
 induction l with
 | nil=>intro i h;simp at h
 | cons a l ih=>
  intro i h;cases i with
  | zero=>rfl
  | succ i=>simpa[nth]using ih (i:=i) (by simpa using h)
theorem aij(F:Nat->Bool){j:Nat}(h:j<256):nth (kg F) j=some (.b (F j)):=by rw[aii (by rw[FC];exact h)];simp[kg]
theorem aik(F:Nat->Bool)(j:Nat)(b:Bool):(kg F).set j (.b b)=kg λi=>if i=j then b else F i:=by
 apply BB
 ·simp[kg]
 ·intro i h1 h2;simp only[kg,List.getElem_set,List.getElem_map,List.getElem_range];by_cases h:i=j
  ·subst h;simp
  ·rw[Ξ (Ne.symm h),Ξ h]
theorem Wx(hC:Cd C){m:Nat}(hQ:Q (.b (decide (8<m))) h n):τ C (.f 241 [] []) [.i .i64 (m:Nat)] h n Q:=by
 refine τ.go hC.f241 U ?_;refine ζ<|γ U<|ε ?_;refine ζ<|γ U<|cS U U<|γ U<|ε (Θ ⟨_,rfl,?_⟩);have:decide ((8:Int)<(m:Nat))=decide (8<m):=by by_cases h:8<m<;>simp[h]<;>omega
 rw[this];exact hQ
def m6(cs:S)(j:Nat):Bool:=decide (∃x∈cs,x.toNat=j)
theorem ail{cs:S}{i:Nat}(hi:i<cs.length)(j:Nat):m6 (cs.take (i+1)) j=if j=cs[i].toNat then true else m6 (cs.take i) j:=by
 unfold m6;rw[pg hi];by_cases h:j=cs[i].toNat
 ·rw[au h];simp only[bA];exact⟨cs[i],Bx _ (zB.2 rfl),h.symm⟩
 ·rw[Ξ h];congr 1;apply propext;constructor
  ·rintro⟨x,hx,e⟩;rcases xP.1 hx with hx | hx
   ·exact⟨x,hx,e⟩
   ·simp only[zB]at hx;subst hx;exact absurd e.symm h
  ·rintro⟨x,hx,e⟩;exact⟨x,List.mem_append_left _ hx,e⟩
theorem aim{cs:S}(jQ:∀c∈cs,c.toNat<128)(hl:cs.length<1000000){b:K}{h0:Hf}{n0:K}{Q1:Ex->Env->Hf->K->Prop}(gW:n0.num<=b.num)
 (hQ:∀v E h n,Ext h0 n0 h n->h b=some (.c (kg (m6 cs)) 296 0)->Q1 .normal ((k9,v)::(k8,.i .i64 (cs.length:Nat))::(k7,st cs)::(k6,.i .i64 (cs.length:Nat))::(k0,st cs)::(k2,.p b 0)::E) h n):
 ∀(m i:Nat) (h:Hf) (n:K),cs.length - i=m->i<=cs.length->h b=some (.c (kg (m6 (cs.take i))) 296 0)->Ext h0 n0 h n->WC C Ss [(k0,st cs),(k2,.p b 0),(k4,.i .i64 (i:Nat))] h n (blk 0 Q1):=by
 intro m
 induction m with
 | zero=>
  intro i h n hm hi hb e;have:i=cs.length:=by omega
  subst this;rw[gM]at hb;refine aJ ?_;refine ξ<|ζ<|γ U<|γ U<|cH U<|aO U U<|ε ?_;exact ay U (by simp)<|bM (hQ _ _ _ _ e hb)
 | succ m ih=>
  intro i h n hm hi hb e;have ω:i<cs.length:=by omega
  have hc:=jQ _ (fW ω);refine aJ ?_;refine ξ<|ζ<|γ U<|γ U<|cH U<|aO U U<|ε ?_;refine an U (by simp<;>omega)<|ae ?_;refine ξ<|aC<|ζ<|γ U<|γ U<|lZ U U (ω)<|γ U<|ε ?_;refine ξ<|ζ<|γ U<|fL U U<|ε ?_;refine ay U (by simp<;>omega)<|ae ?_;have hs:nh (kg (m6 (cs.take i))) 0 (0+cs[i].toNat*1) 1 (.b true)=some (kg (m6 (cs.take (i+1)))):=by rw[show kg (m6 (cs.take (i+1)))=(kg (m6 (cs.take i))).set cs[i].toNat (.b true) from by rw[aik];congr 1;funext j;exact ail ω j];exact Rk rfl rfl (by rw[show 0+cs[i].toNat*1=cs[i].toNat by omega];exact RA _ (by rw[FC];omega))
  refine aL<|γ U<|wT U U (by omega)<|bL U U (hb) (hs) <| λh1 a1 b1=>ε ?_;refine aL<|γ U<|cU U U ⟨by omega,by omega⟩<|γ U<|ε ?_;exact Γ (ih (i+1) h1 n (by omega) (by omega) a1 (e.aj b1 gW)) ⟨rfl,rfl,rfl,trivial⟩
theorem ain{E:Env}{h:Hf}{k k':K}{agg:Bool}{sz:Nat}{p v v':V}(h1:lk E k=some p)(h2:aX h agg sz p=some v)(h3:lk E k'=some v'):
 lW [.cell k agg sz,.t k'] E h=some (.u [v,v']):=by
 simp only[lW,rA,uD,h1,h2,h3]
set_option maxRecDepth 100000 in
theorem aio(hC:Cd C){cs:S}(jQ:∀c∈cs,c.toNat<128)(hl:cs.length<1000000)(hQ:∀h' n',Ext h n h' n'->Q (.u [.a (kg (m6 cs)),.b true]) h' n'):τ C (.f 242 [] []) [st cs] h n Q:=by refine τ.go hC.f242 U ?_;refine ζ<|du <| λh1 n1 dS a1 e1=>γ U<|ε ?_;refine ξ<|ζ<|γ U<|ε ?_;have YH:h1 n=some (.c (kg (m6 (cs.take 0))) 296 0):=a1;refine aC<|Γ (aim jQ hl (h0:=h) (n0:=n) (χ _) (λv E h' n' e a=>?_) _ 0 h1 n1 rfl (by omega) YH e1) ⟨rfl,rfl,rfl,trivial⟩;have hld:∀{Be:Hf},Be n=some (.c (kg (m6 cs)) 296 0)->aX Be true 256 (.p n 0)=some (.a (kg (m6 cs))):=λa=>bQ a (rB (FC _));refine ζ<|ν U (hld a)<|bL U U (a) (dW (FC _) U (Ww _)) <| λh2 a2 b2=>γ U<|ε ?_;exact Θ ⟨_,ain rfl (hld a2) U,hQ _ _ (e.aj b2 (χ _))⟩
theorem aiq(hC:Cd C){b:K}{F:Nat->Bool}(hb:h b=some (.c (kg F) 296 0)){c:UInt8}(hQ:Q (.b (F c.toNat)) h n):τ C (.f 243 [] []) [.p b 0,.i .u8 (c.toNat:Nat)] h n Q:=by have hc:=c.toNat_lt;refine τ.go hC.f243 U ?_;refine ζ<|γ U<|ε ?_;refine ζ<|γ U<|γ U<|acG U<|wT U U (by omega)<|ν U (dL hb (o:=0+c.toNat*1) (by rw[show 0+c.toNat*1=c.toNat by omega];exact aij F hc) _)<|γ U<|ε (Θ ⟨_,rfl,hQ⟩)
def vW(s cs:S):Prop:=∃c∈s,∃x∈cs,x.toNat=c.toNat
section
variable {s cs:S}(jQ:∀c∈cs,c.toNat<128)(hl:s.length<1000000){h0:Hf}{n0:K}(hQ:∀i:Int,(0<=i↔vW s cs)->∀h' n',Ext h0 n0 h' n'->Q (.i .i64 i) h' n')
include jQ hl hQ in
theorem air (hC:Cd C) {b:K} (gW:n0.num<=b.num) {Q1:Ex->Env->Hf->K->Prop} (JD:∀i:Int,(0<=i↔vW s cs)->∀E h' n',Ext h0 n0 h' n'->Q1 .ret ((k4,.i .i64 i)::E) h' n') (GC:¬ vW s cs->∀E h' n',Ext h0 n0 h' n'->Q1 .normal E h' n'):
 ∀(m i:Nat) (h:Hf) (n:K),s.length - i=m->i<=s.length->h b=some (.c (kg (m6 cs)) 296 0)->Ext h0 n0 h n->(∀j (hj:j<s.length),j<i->m6 cs s[j].toNat=false)->WC C Sp [(k0,st s),(k6,.p b 0),(k8,.i .i64 (i:Nat))] h n (blk 0 Q1):=by
 intro m
 induction m with
 | zero=>
  intro i h n hm hi hb e hU;refine aJ ?_;refine ξ<|ζ<|γ U<|γ U<|cH U<|aO U U<|ε ?_;refine ay U (by simp<;>omega)<|bM (GC (λ⟨c,hc,hx⟩=>?_) _ _ _ e);obtain⟨j,hj,rfl⟩:=uu hc;have:=hU j hj (by omega);simp only[m6,cV]at this;exact this hx
 | succ m ih=>
  intro i h n hm hi hb e hU;have ω:i<s.length:=by omega
  refine aJ ?_;refine ξ<|ζ<|γ U<|γ U<|cH U<|aO U U<|ε ?_;refine an U (by simp<;>omega)<|ae ?_;refine ξ<|aC<|ζ<|γ U<|γ U<|lZ U U (ω)<|ak U U<|aiq hC hb<|ε ?_;refine cB U (λhx=>?_) (λhx=>ae ?_)
  ·simp only[m6,bA]at hx;refine ζ<|γ U<|γ U<|ε (Θ (JD _ ⟨λ_=>⟨_,fW ω,hx⟩,λ_=>by omega⟩ _ _ _ e))
  ·refine aL<|γ U<|cU U U ⟨by omega,by omega⟩<|γ U<|ε ?_;refine Γ (ih (i+1) h n (by omega) (by omega) hb e (λj hj Ji=>?_)) ⟨rfl,rfl,rfl,trivial⟩;by_cases h:j=i
   ·subst h;exact hx
   ·exact hU j hj (by omega)
include jQ hl hQ in
theorem ais (hC:Cd C) {b:K} (gW:n0.num<=b.num) (tx:4<=cs.length) (ju:cs.length<1000000) {Q1:Ex->Env->Hf->K->Prop} (JD:∀i:Int,(0<=i↔vW s cs)->∀E h' n',Ext h0 n0 h' n'->Q1 .ret ((k4,.i .i64 i)::E) h' n') (GC:¬ vW s cs->∀E h' n',Ext h0 n0 h' n'->Q1 .normal E h' n'):
 ∀(m i:Nat) (h:Hf) (n:K),s.length - i<=m->i<=s.length->h b=some (.it s.length (bp s) i)->b.num<n.num->Ext h0 n0 h n->(∀j (hj:j<s.length),j<i->∀x∈cs,x.toNat≠s[j].toNat)->WC C Sq [(k1,st cs),(eX,.p b 0)] h n (blk 2 Q1):=by
 intro m
 induction m with
 | zero=>
  intro i h n hm hi hb jU e hU;refine aJ ?_;refine ζ<|Cj U (hb) (by omega)<|dG U U<|ε ?_;refine ξ<|ay U U<|bM (GC (λ⟨c,hc,x,hx,he⟩=>?_) _ _ _ e);obtain⟨j,hj,rfl⟩:=uu hc;exact hU j hj (by omega) x hx he
 | succ m ih=>
  intro i h n hm hi hb jU e hU;refine aJ ?_;by_cases ω:i<s.length
  ·refine ζ<|HQ U (hb) (by omega) <| λr w h1 R a1 b1=>dG U U<|ε ?_;refine ξ<|an U U<|ae<|aC ?_;have hrk:r<=1114111/\(r<55296\/57344<=r):=by
    by_cases hb:s[i].toNat<128
    ·have:=(R.lo hb).1;omega
    ·exact(R.hi (by omega)).2
   have e1:=e.aj b1 gW;refine ζ<|dG U U<|dG U U<|γ U<|γ U<|ε ?_;refine ζ<|γ U<|γ U<|ak U U<|aie hC jQ tx ju hrk.1 hrk.2 <| λiv hiv h2 n2 e2=>fL U U<|ε ?_;refine cB U (λhx=>?_) (λhx=>ae ?_)
   ·simp only[bA]at hx;refine ζ<|γ U<|γ U<|ε ?_;refine Θ (JD _ ⟨λ_=>?_,λ_=>by omega⟩ _ _ _ (e1.trans e2));obtain⟨x,hx,he⟩:=hiv.1 hx;have auv:=jQ x hx;have aiv:s[i].toNat<128:=by
     by_cases hb:s[i].toNat<128
     ·exact hb
     ·have:=(R.hi (by omega)).1;omega
    exact⟨_,fW ω,x,hx,by have:=(R.lo aiv).1;omega⟩
   ·simp only[cV]at hx;have aiw:b.num<n.num:=jU;refine Γ (ih (i+w) h2 n2 (by have:=R.one;omega) R.le (by rw[e2.2 _ aiw];exact a1) (by have:=e2.1;omega) (e1.trans e2) (λj hj Ji x YV he=>?_)) ⟨rfl,rfl,trivial⟩;by_cases y9:j<i
    ·exact hU j hj y9 x YV he
    ·by_cases hb:s[i].toNat<128
     ·obtain⟨er,ew⟩:=R.lo hb;have:j=i:=by omega
      subst this;exact hx (hiv.2 ⟨x,YV,by omega⟩)
     ·have:=R.all (by omega) j hj (by omega) Ji;have:=jQ x YV;omega
  ·refine ζ<|Cj U (hb) (by omega)<|dG U U<|ε ?_;refine ξ<|ay U U<|bM (GC (λ⟨c,hc,x,hx,he⟩=>?_) _ _ _ e);obtain⟨j,hj,rfl⟩:=uu hc;exact hU j hj (by omega) x hx he
end
set_option maxRecDepth 100000 in
theorem aix(hC:Cd C){s cs:S}(hs:s≠[])(hl:s.length<1000000)(jQ:∀c∈cs,c.toNat<128)(tx:4<=cs.length)(ju:cs.length<1000000)
 (hQ:∀i:Int,(0<=i↔vW s cs)->∀h' n',Ext h n h' n'->Q (.i .i64 i) h' n'):τ C (.f 176 [] []) [st s,st cs] h n Q:=by
 have aR:cs≠[]:=λe=>by rw[e]at tx;simp at tx
 have hU:¬ vW s cs->((0:Int) <= -1↔vW s cs):=λh=>⟨λe=>by omega,λe=>absurd e h⟩;refine τ.go hC.f176 U ?_;refine ζ<|γ U<|ε ?_;refine ξ<|ζ<|γ U<|en (b:=[]) U U<|ε ?_;refine ay U (by simpa using aR)<|ae ?_;refine ξ<|ζ<|γ U<|cH U<|bm U U<|ε ?_;refine ay U (by simp<;>omega)<|ae ?_;by_cases h8:8<s.length
 ·refine ξ<|ζ<|γ U<|cH U<|ak U U<|Wx hC<|ε ?_;refine an U (by simp<;>omega) ?_;refine ζ<|γ U<|ak U U<|aio hC jQ ju <| λh1 n1 e1=>γ U<|dG U U<|dG U U<|du <| λh2 n2 iL a2 e2=>bL U U a2 (dW (FC _) U (Ww _)) <| λh3 a3 b3=>γ U<|ε ?_;refine ζ<|γ U<|ε ?_;refine an U U ?_;refine ξ<|ζ<|γ U<|ε ?_;have e3:Ext h n h3 n2:=(e1.trans e2).aj b3 (by have:=e1.1;omega);refine aC<|Γ (air jQ hl hQ hC (b:=n1) (by have:=e1.1;omega) (λi hi E h' n' e=>⟨_,rfl,hQ i hi h' n' e⟩) (λqS E h' n' e=>?_) _ 0 h3 n2 rfl (by omega) a3 e3 (λj hj h=>by omega)) ⟨rfl,rfl,rfl,trivial⟩;refine ζ<|γ U<|ε (Θ ⟨_,rfl,hQ _ (hU qS) _ _ e⟩)
 ·refine ξ<|ζ<|γ U<|cH U<|ak U U<|Wx hC<|ε ?_;refine ay U (by simp<;>omega)<|ae ?_;refine ξ<|ζ<|γ U<|HP U <| λh1 n1 dS a1 e1=>ε ?_;refine aC<|Γ (ais jQ hl hQ hC (b:=n) (χ _) tx ju (λi hi E h' n' e=>⟨_,rfl,hQ i hi h' n' e⟩) (λqS E h' n' e=>?_) _ 0 h1 n1 (χ _) (by omega) a1 (by omega) e1 (λj hj h=>by omega)) ⟨rfl,rfl,trivial⟩;refine ζ<|γ U<|ε (Θ ⟨_,rfl,hQ _ (hU qS) _ _ e⟩)
theorem aiy(hC:Cd C){s cs:S}(hs:s≠[])(hl:s.length<1000000)(jQ:∀c∈cs,c.toNat<128)(tx:4<=cs.length)(ju:cs.length<1000000)
 (hQ:∀b:Bool,(b=true↔vW s cs)->∀h' n',Ext h n h' n'->Q (.b b) h' n'):τ C (.f 100 [] []) [st s,st cs] h n Q:=by
 refine τ.go hC.f100 U ?_;refine ζ<|γ U<|ε ?_;refine ζ<|γ U<|γ U<|ak U U<|aix hC hs hl jQ tx ju <| λi hi h1 n1 e1=>fL U U<|γ U<|ε (Θ ⟨_,rfl,hQ _ (by simpa using hi) _ _ e1⟩)
theorem aiz(s:S):s.all oQ=true↔¬ vW s [32,10,40,41,123,125]:=by
 rw[sF];constructor
 ·rintro h ⟨c,hc,x,hx,e⟩;have:=h c hc;simp only[oQ,xM,Dz,cV]at this;simp only[fX,xN,or_false]at hx;rcases hx with rfl | rfl | rfl | rfl | rfl | rfl<;>simp at e<;>omega
 ·intro h c hc;simp only[oQ,xM,Dz,cV];refine⟨⟨⟨⟨⟨?_,?_⟩,?_⟩,?_⟩,?_⟩,?_⟩<;>intro e<;>apply h
  ·exact⟨c,hc,32,by simp,by rw[e];rfl⟩
  ·exact⟨c,hc,10,by simp,by rw[e];rfl⟩
  ·exact⟨c,hc,40,by simp,by rw[e];rfl⟩
  ·exact⟨c,hc,41,by simp,by rw[e];rfl⟩
  ·exact⟨c,hc,123,by simp,by rw[e];rfl⟩
  ·exact⟨c,hc,125,by simp,by rw[e];rfl⟩
theorem aiA:∀c∈([32,10,40,41,123,125]:S),c.toNat<128:=by intro c hc;simp only[fX,xN,or_false]at hc;rcases hc with rfl | rfl | rfl | rfl | rfl | rfl<;>decide
theorem w42(hC:Cd C){s:S}(hl:s.length<1000000)(hQ:∀h' n',Ext h n h' n'->Q (.b (rS s)) h' n'):τ C (.f 42 [] []) [st s] h n Q:=by
 refine τ.go hC.f42 U ?_;refine ζ<|γ U<|ε ?_;unfold rS at hQ;by_cases h1:s=[]
 ·subst h1;refine ζ<|γ U<|iP (b:=[]) U U<|γ U<|μ U (by simp)<|μ U (by simp)<|μ U (by simp)<|aK U (by simp) U<|γ U<|μ U (rfl)<|μ U (rfl)<|μ U (rfl)<|aK U (rfl) U<|γ U<|ε (Θ ⟨_,rfl,hQ _ _ (Ext.refl _ _)⟩)
 ·have h0:s.length≠0:=λe=>h1 (List.eq_nil_of_length_eq_zero e);by_cases h2:200<s.length
  ·refine ζ<|γ U<|iP (b:=[]) U U<|γ U<|κ U (by simp[h1])<|γ U<|κ U (by simp[h1])<|cH U<|κ U (by simp[h1])<|pA U U<|aS U (by simp[h1]) U<|γ U<|μ U (by simp<;>omega)<|μ U (by simp<;>omega)<|μ U (by simp<;>omega)<|aK U (by simp<;>omega) U<|γ U<|ε (Θ ⟨_,rfl,by simpa[h0,h2]using hQ _ _ (Ext.refl _ _)⟩)
  ·refine ζ<|γ U<|iP (b:=[]) U U<|γ U<|κ U (by simp[h1])<|γ U<|κ U (by simp[h1])<|cH U<|κ U (by simp[h1])<|pA U U<|aS U (by simp[h1]) U<|γ U<|κ U (by simp<;>omega)<|γ U<|κ U (by simp<;>omega)<|ak U U<|aiy hC (cs:=[32,10,40,41,123,125]) h1 hl aiA (by simp) (by simp) <| λb hb h1 n1 e1=>κ U (by simp<;>omega)<|di U<|aS U (by simp<;>omega) U<|γ U<|ε ?_;refine Θ ⟨_,rfl,?_⟩;have:=hQ _ _ e1;have hp:=aiz s;cases fM:s.all oQ with
   | true=>
    have:b=false:=by cases b with | false=>rfl | true=>exact absurd (hb.1 rfl) (hp.1 fM)
    subst this;simp only[h0,h2,fM]at *;simpa using ‹Q _ _ _›
   | false=>
    have:b=true:=hb.2 (Classical.byContradiction λh=>by have:=hp.2 h;rw[fM]at this;cases this);subst this;simp only[h0,h2,fM]at *;simpa using ‹Q _ _ _›
end
end Go.Ev.X
