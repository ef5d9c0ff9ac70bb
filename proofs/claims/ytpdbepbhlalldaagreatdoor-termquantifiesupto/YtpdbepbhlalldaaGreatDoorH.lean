/- A part of the proof. -/
import Derived.Test.YtpdbepbhlalldaaGreatDoorG
import Derived.Test.YtpdbepbhlalldaaGreatDoorD
set_option linter.all false
namespace Go.Ev.X
open Go Go.Ev
attribute [local irreducible] WC WO WD SO τ
section
variable {C:Nat->Option bP}{h:Hf}{n:K}{Q:V->Hf->K->Prop}
theorem aht{l:List Int}{m:Nat}(hm:m<l.length):(l.take (m+1)).reverse=l[m]::(l.take m).reverse:=by rw[iy hm,List.reverse_append];rfl
theorem ahu{t vf:V}{ts:List Nd}{F:List Nat}{i:Nat}{vv kv:V}{cs:List V}(hs:ρ h n 5 t ts.length cs)(hlen:ts.length<1000000)(hi:i<ts.length)(hx:rM h n t.blk (t.off+i*5) ts[i] vv kv)(hF:bj h n .i64 vf F)(hFl:F.length=ts.length)(Cp:∀j,F.getD j 0<=j)(eU:ts[i].kids.length<1000000):
 ∀(m:Nat) (next:Nat),m<=ts[i].kids.length->next<=i->Q (.b (iT (λj=>F.getD j 0) (ts[i].kids.take m).reverse next)) h n->WC C Th [(k0,t),(k1,vf),(k2,.i .i64 (i:Nat)),(k7,.i .i64 (next:Nat)),(k8,.i .i64 ((m:Int) - 1))] h n (blk 0 (sq C Ti (fq [.t k6] Q))):=by
 intro m
 induction m with
 | zero=>
  intro next hm hn hQ;refine aQ ?_;refine ν<|θ<|γ U<|fU U U<|ε ?_;refine aE U (by simp<;>omega)<|bW ?_;refine θ<|γ U<|ε (aj ⟨_,rfl,by simpa[iT]using hQ⟩)
 | succ m ih=>
  intro next hm hn hQ;have ψ:m<ts[i].kids.length:=by omega
  have e:((m+1:Nat):Int) - 1=(m:Nat):=by omega
  rw[e];rw[aht ψ,iT]at hQ;have hg:=hx.kids.get ψ 1;generalize FX:ts[i].kids[m]=kk at*;refine aQ ?_;refine ν<|θ<|γ U<|fU U U<|ε ?_;refine aD U (by simp<;>omega)<|ao ?_;refine ν<|aK ?_;by_cases h0:kk<0
  ·refine ν<|θ<|γ U<|γ U<|bh U U hs hi<|Ω U<|χ U (hx.ks _)<|γ U<|bh U U hx.kids ψ<|χ U hg<|aP U U<|γ U<|σ U (by simp[h0])<|σ U (by simp[h0])<|σ U (by simp[h0])<|σ U (by simp[h0])<|σ U (by simp[h0])<|σ U (by simp[h0])<|σ U (by simp[h0])<|σ U (by simp[h0])<|σ U (by simp[h0])<|σ U (by simp[h0])<|σ U (by simp[h0])<|cg U (by simp[h0]) U<|ε ?_;refine aD U U ?_;rw[az (Or.inl h0)]at hQ;refine θ<|γ U<|ε (aj ⟨_,rfl,hQ⟩)
  ·refine ν<|θ<|γ U<|γ U<|bh U U hs hi<|Ω U<|χ U (hx.ks _)<|γ U<|bh U U hx.kids ψ<|χ U hg<|aP U U<|γ U<|κ U (by simp[h0])<|γ U<|κ U (by simp[h0])<|γ U<|κ U (by simp[h0])<|bh U U hs hi<|κ U (by simp[h0])<|Ω U<|κ U (by simp[h0])<|χ U (hx.ks _)<|κ U (by simp[h0])<|γ U<|κ U (by simp[h0])<|bh U U hx.kids ψ<|κ U (by simp[h0])<|χ U hg<|κ U (by simp[h0])<|γ U<|κ U (by simp[h0])<|jg U U ⟨by omega,by omega⟩<|κ U (by simp[h0])<|fT U U<|bE U (by simp[h0]) U<|ε ?_;by_cases h1:kk=(next:Int) - 1
   ·refine aE U (by simp[h1])<|ao ?_;rw[ai (by omega)]at hQ;obtain⟨k',gD⟩:∃k':Nat,kk=(k':Int):=⟨kk.toNat,by omega⟩;have OX:=hg;rw[gD]at hQ OX;have uk:k'<F.length:=by omega
    have hgF:=hF.get uk 1;have hle:=Cp k';rw[jt uk]at hle;rw[show((k':Nat):Int).toNat=k' from rfl]at hQ;simp only[jt uk]at hQ;refine aR<|γ U<|γ U<|γ U<|bh U U hs hi<|Ω U<|χ U (hx.ks _)<|γ U<|bh U U hx.kids ψ<|χ U OX<|bh U U hF uk<|χ U hgF<|γ U<|ε ?_;refine aR<|γ U<|jg U U ⟨by omega,by omega⟩<|γ U<|ε ?_;exact ae (ih F[k'] (by omega) (by omega) hQ) ⟨rfl,rfl,rfl,rfl,rfl,trivial⟩
   ·refine aD U (by simp[h1]) ?_;rw[az (Or.inr h1)]at hQ;refine θ<|γ U<|ε (aj ⟨_,rfl,hQ⟩)
theorem MZ(hC:Cd C){t vf:V}{ts:List Nd}{F:List Nat}{i:Nat}(ht:db h n t ts)(hlen:ts.length<1000000)(hi:i<ts.length)(hF:bj h n .i64 vf F)(hFl:F.length=ts.length)(Cp:∀j,F.getD j 0<=j)(eU:ts[i].kids.length<1000000)
 (hQ:Q (.b (iT (λj=>F.getD j 0) ts[i].kids.reverse i)) h n):τ C (.f 109 [] []) [t,vf,.i .i64 (i:Nat)] h n Q:=by
 obtain⟨cs,hs⟩:=ht.sl;obtain⟨vv,kv,hx⟩:=ht.node hi;refine τ.go hC.f109 U ?_;refine θ<|γ U<|ε ?_;refine θ<|γ U<|γ U<|ε ?_;refine ν<|θ<|γ U<|γ U<|bh U U hs hi<|Ω U<|χ U (hx.ks _)<|aG U hx.kids<|jg U U ⟨by omega,by omega⟩<|γ U<|ε ?_;exact aK<|ae (ahu hs hlen hi hx hF hFl Cp eU ts[i].kids.length i (Γ _) (Γ _) (by rw[fO];exact hQ)) ⟨rfl,rfl,rfl,rfl,rfl,trivial⟩
def fz(ts:List Nd)(i:Nat):List Nat:=fl ts i++List.replicate (ts.length - i) 0
theorem ahw{ts:List Nd}{i:Nat}(hi:i<=ts.length):(fz ts i).length=ts.length:=by simp[fz,mZ];omega
theorem M0{ts:List Nd}{i j:Nat}(hj:j<i):(fz ts i).getD j 0=(fl ts i).getD j 0:=by rw[fz,fF,uD (by rw[mZ];exact hj),←fF]
theorem M3{ts:List Nd}{i x:Nat}(hi:i<ts.length)(hx:x=tH ts (fl ts i) i):(fz ts i).set i x=fz ts (i+1):=by
 unfold fz;rw[List.set_append_right _ _ (by rw[mZ];exact Γ _),mZ,qp,fl];have:ts.length - i=(ts.length - (i+1))+1:=by omega
 rw[this,Dm,List.set_cons_zero,uF,hx];rfl
theorem ahx(ts:List Nd)(i j:Nat):(fz ts i).getD j 0<=j:=by
 by_cases hj:j<i
 ·rw[M0 hj];exact IB ts
 ·rw[fz,fF,xu (by rw[mZ];omega),List.getElem?_replicate];split<;>simp
theorem ahy(hC:Cd C){t:V}{ts:List Nd}{bo:K}{h0:Hf}{n0:K}(ht:db h0 n0 t ts)(hlen:ts.length<1000000)(eU:∀i (hi:i<ts.length),ts[i].kids.length<1000000)(CY:n0.num<=bo.num){Q1:Ex->Env->Hf->K->Prop}(tM:n0.num<=n.num)
 (hQ:∀h E',Ext h0 n0 h n->Cl h n bo (nC .i64 (fl ts ts.length)) 3->da [(k3,.sl bo 0 ts.length ts.length)] E'->Q1 .normal E' h n):
 ∀(m i:Nat) (h:Hf),ts.length - i=m->i<=ts.length->Ext h0 n0 h n->Cl h n bo (nC .i64 (fz ts i)) 3->WC C Tg [(k0,t),(k3,.sl bo 0 ts.length ts.length),(k4,.i .i64 (i:Nat))] h n (blk 0 Q1):=by
 intro m
 induction m with
 | zero=>
  intro i h hm hi he hc;have:i=ts.length:=by omega
  subst this;obtain⟨cs,hs⟩:=(ht.ext he).sl;refine aQ ?_;refine ν<|θ<|γ U<|γ U<|aG U hs<|aP U U<|ε ?_;refine aE U (by simp)<|bW (hQ h _ he ?_ ⟨rfl,trivial⟩);have:fz ts ts.length=fl ts ts.length:=by simp[fz]
  rw[←this];exact hc
 | succ m ih=>
  intro i h hm hi he hc;have ψ:i<ts.length:=by omega
  have vH:=ht.ext he;obtain⟨cs,hs⟩:=vH.sl;obtain⟨vv,kv,hx⟩:=vH.node ψ;have M4:=ahw (ts:=ts) (i:=i) (by omega);have io:=hc.qL M4;have hif:i<(fz ts i).length:=by omega
  refine aQ ?_;refine ν<|θ<|γ U<|γ U<|aG U hs<|aP U U<|ε ?_;refine aD U (by simp<;>omega)<|ao ?_;refine ν<|aK<|θ<|γ U<|γ U<|γ U<|bh U U io hif<|ct U U hc.2 (yC hif _ (by simp[V.off])) <| λh1 a1 b1=>ε ?_;have CN:Ext h0 n0 h1 n:=he.aA b1 CY;have za:=ht.ext CN;obtain⟨cs1,kh⟩:=za.sl;obtain⟨vv1,kv1,qy⟩:=za.node ψ;have zg:Cl h1 n bo (nC .i64 ((fz ts i).set i i)) 3:=⟨hc.1,a1⟩;have lA:((fz ts i).set i i).length=ts.length:=by rw[mL];exact M4
  have EX:=zg.qL lA;have hk:=eU i ψ;have M5:=tI ψ;have next:∀h2,Ext h0 n0 h2 n->Cl h2 n bo (nC .i64 (fz ts (i+1))) 3->WC C Te [(k0,t),(k3,.sl bo 0 ts.length ts.length),(k4,.i .i64 (i:Nat))] h2 n (sq C (.loop Tf) (blk 0 Q1)):=by intro h2 e2 c2;refine aR<|γ U<|cK U U ⟨by omega,by omega⟩<|γ U<|ε ?_;exact ae (ih (i+1) h2 (by omega) (by omega) e2 c2) ⟨rfl,rfl,rfl,trivial⟩
  cases nw:ts[i].kids with
  | nil=>
   have dP:tH ts (fl ts i) i=i:=by unfold tH;rw[M5,nw]
   refine θ<|γ U<|γ U<|bh U U kh ψ<|Ω U<|χ U (qy.ks _)<|aG U qy.kids<|cQ U U<|γ U<|σ U (by simp[nw])<|σ U (by simp[nw])<|σ U (by simp[nw])<|σ U (by simp[nw])<|bE U (by simp[nw]) U<|ε ?_;refine aE U U<|ao ?_;exact ae (next h1 CN (by rw[←M3 ψ dP.symm];exact zg)) ⟨rfl,rfl,rfl,trivial⟩
  | cons k ks=>
   have Cp:∀j,((fz ts i).set i i).getD j 0<=j:=by
    intro j;rw[yP];split
    ·omega
    ·exact ahx ts i j
   have ho:iT (λj=>((fz ts i).set i i).getD j 0) ts[i].kids.reverse i=ord ts i:=by rw[←IC ts i (Γ i),M5];refine Wl λj hj=>⟨?_,by have:=Cp j;omega⟩;show((fz ts i).set i i).getD j 0=_;rw[yP,ai (by omega),M0 (by omega)]
   have dP:tH ts (fl ts i) i=if ord ts i then (fl ts i).getD k.toNat 0 else i:=by unfold tH;rw[M5,nw];simp only;have:=IC ts i (Γ i);rw[M5,nw]at this;rw[this]
   refine θ<|γ U<|γ U<|bh U U kh ψ<|Ω U<|χ U (qy.ks _)<|aG U qy.kids<|cQ U U<|γ U<|κ U (by simp[nw])<|γ U<|κ U (by simp[nw])<|γ U<|κ U (by simp[nw])<|γ U<|κ U (by simp[nw])<|al U U<|MZ hC za hlen ψ (EX.up (Γ _)) lA Cp hk<|cg U (by simp[nw]) U<|ε ?_;rw[ho];refine di U (λjQ=>?_) (λjQ=>ao ?_)
   ·rw[jQ]at dP;have u9:=Ch jQ k (by rw[M5,nw];simp);obtain⟨k',rfl⟩:∃k':Nat,k=(k':Int):=⟨k.toNat,by omega⟩;have iD:0<ts[i].kids.length:=by rw[nw];simp
    have JA:=qy.kids.get iD 1;simp only[nw,sH]at JA;have wU:k'<((fz ts i).set i i).length:=by omega
    have AH:=EX.get wU 1;have hv:((fz ts i).set i i)[k']=tH ts (fl ts i) i:=by rw[dP,az rfl,←jt wU,yP,ai (by omega),M0 (by omega)];rfl
    rw[hv]at AH;have WT:i<((fz ts i).set i i).length:=by omega
    refine aR<|γ U<|γ U<|γ U<|γ U<|γ U<|bh U U kh ψ<|Ω U<|χ U (qy.ks _)<|bh U U qy.kids iD<|χ U JA<|bh U U EX wU<|χ U AH<|bh U U EX WT<|ct U U zg.2 (yC WT _ (by simp[V.off])) <| λh2 a2 b2=>ε ?_;rw[List.set_set,M3 ψ rfl]at a2;exact ae (next h2 (CN.aA b2 CY) ⟨hc.1,a2⟩) ⟨rfl,rfl,rfl,trivial⟩
   ·rw[jQ]at dP;exact ae (next h1 CN (by rw[←M3 ψ (by rw[dP])];exact zg)) ⟨rfl,rfl,rfl,trivial⟩
theorem WU(hC:Cd C){t:V}{ts:List Nd}(ht:db h n t ts)(hlen:ts.length<1000000)(eU:∀i (hi:i<ts.length),ts[i].kids.length<1000000)
 (hQ:∀v' h' n',Ext h n h' n'->bj h' n' .i64 v' (fl ts ts.length)->Q v' h' n'):τ C (.f 107 [] []) [t] h n Q:=by
 refine τ.go hC.f107 U ?_;obtain⟨cs,hs⟩:=ht.sl;refine θ<|γ U<|ε ?_;refine θ<|γ U<|aG U hs<|uX U U (by omega) (by omega) <| λh1 n1 dZ a1 e1=>γ U<|ε ?_;rw[Aj]at a1;have zg:Cl h1 n1 n (nC .i64 (fz ts 0)) 3:=⟨by omega,by rw[a1];simp[fz,fl]⟩;refine ν<|θ<|γ U<|ε ?_;refine aK<|ae (ahy hC ht hlen eU (Γ _) e1.1 ?_ _ 0 h1 rfl (by omega) e1 zg) ⟨rfl,rfl,rfl,trivial⟩;intro h2 E2 e2 c2 s2;refine dB s2 ?_;refine θ<|γ U<|γ U<|ε (aj ⟨_,rfl,hQ _ h2 n1 e2 (c2.qL (mZ ts _))⟩)
end
section
variable {C:Nat->Option bP}{h:Hf}{n:K}{Q:V->Hf->K->Prop}
section
variable {h0:Hf}{n0 bo:K}{t:V}{ts:List Nd}
theorem ahA{i:Nat}(hlen:ts.length<1000000)(hi:i<ts.length)(ht:db h n t ts)(eU:ts[i].kids.length<1000000)(hr:∀k∈ts[i].kids,k<i/\0<=k)(hc:Cl h n bo (eI .i64 (dz ts i)) 3){Q1:Ex->Env->Hf->K->Prop}
 (hQ:∀E',da [(k0,t),(k3,.sl bo 0 ts.length ts.length),(k4,.i .i64 (i:Nat)),(k5,.i .i64 (wP (dl ts i) ts[i].kids 0))] E'->Q1 .normal E' h n):
 ∀(m j:Nat) (d:Int),ts[i].kids.length - j=m->j<=ts[i].kids.length->wP (dl ts i) (ts[i].kids.drop j) d=wP (dl ts i) ts[i].kids 0->0<=d->d<=i->WC C Uc [(k0,t),(k3,.sl bo 0 ts.length ts.length),(k4,.i .i64 (i:Nat)),(k5,.i .i64 d),(k6,.i .i64 (j:Nat))] h n (blk 2 Q1):=by
 intro m;obtain⟨cs,hs⟩:=ht.sl;obtain⟨vv,kv,hx⟩:=ht.node hi
 induction m with
 | zero=>
  intro j d hm hj hd h0 h1;have:j=ts[i].kids.length:=by omega
  subst this;refine aQ ?_;refine ν<|θ<|γ U<|γ U<|γ U<|bh U U hs hi<|Ω U<|χ U (hx.ks _)<|aG U hx.kids<|aP U U<|ε ?_;rw[nH]at hd;refine aE U (by simp)<|bW (hQ _ ⟨rfl,rfl,rfl,?_,trivial⟩);rw[←hd];rfl
 | succ m ih=>
  intro j d hm hj hd h0 h1;have ψ:j<ts[i].kids.length:=by omega
  have hg:=hx.kids.get ψ 1;have j7:=hr ts[i].kids[j] (dU _);rw[gi ψ]at hd;obtain⟨k',gD⟩:∃k':Nat,ts[i].kids[j]=(k':Int):=⟨ts[i].kids[j].toNat,by omega⟩;rw[gD]at hg j7 hd;have M6:(dz ts i).length=ts.length:=Aw (by omega);have io:=hc.Jz M6;have KQ:k'<(dz ts i).length:=by omega
  have AH:=io.get KQ 1;have qy:(dz ts i)[k']=(dl ts i).getD k' 0:=by rw[←ID KQ,MG (by omega)]
  rw[qy]at AH;have hb:=MF ts i k';refine aQ ?_;refine ν<|θ<|γ U<|γ U<|γ U<|bh U U hs hi<|Ω U<|χ U (hx.ks _)<|aG U hx.kids<|aP U U<|ε ?_;refine aD U (by simp<;>omega)<|ao ?_;refine ν<|aK<|aR<|γ U<|γ U<|γ U<|γ U<|bh U U hs hi<|Ω U<|χ U (hx.ks _)<|γ U<|bh U U hx.kids ψ<|χ U hg<|bh U U io KQ<|χ U AH<|Li U U<|γ U<|ε ?_;refine aR<|γ U<|cK U U ⟨by omega,by omega⟩<|γ U<|ε ?_;refine ae (ih (j+1) (max d ((dl ts i).getD k' 0)) (by omega) (by omega) ?_ (by omega) (by omega)) ⟨rfl,rfl,rfl,rfl,rfl,trivial⟩;rw[←hd];rfl
theorem ahB(ht:db h0 n0 t ts)(hlen:ts.length<1000000)(eU:∀i (hi:i<ts.length),ts[i].kids.length<1000000)(ho:∀j,j<ts.length->ord ts j=true)(CY:n0.num<=bo.num){Q1:Ex->Env->Hf->K->Prop}
 (hQ:∀h E',Ext h0 n0 h n->Cl h n bo (eI .i64 (dl ts ts.length)) 3->da [(k3,.sl bo 0 ts.length ts.length)] E'->Q1 .normal E' h n):
 ∀(m i:Nat) (h:Hf),ts.length - i=m->i<=ts.length->Ext h0 n0 h n->Cl h n bo (eI .i64 (dz ts i)) 3->WC C Ud [(k0,t),(k3,.sl bo 0 ts.length ts.length),(k4,.i .i64 (i:Nat))] h n (blk 0 Q1):=by
 intro m
 induction m with
 | zero=>
  intro i h hm hi he hc;have:i=ts.length:=by omega
  subst this;obtain⟨cs,hs⟩:=(ht.ext he).sl;refine aQ ?_;refine ν<|θ<|γ U<|γ U<|aG U hs<|aP U U<|ε ?_;refine aE U (by simp)<|bW (hQ h _ he ?_ ⟨rfl,trivial⟩);have:dz ts ts.length=dl ts ts.length:=by simp[dz]
  rw[←this];exact hc
 | succ m ih=>
  intro i h hm hi he hc;have ψ:i<ts.length:=by omega
  have vH:=ht.ext he;obtain⟨cs,hs⟩:=vH.sl;refine aQ ?_;refine ν<|θ<|γ U<|γ U<|aG U hs<|aP U U<|ε ?_;refine aD U (by simp<;>omega)<|ao ?_;refine ν<|aK<|θ<|γ U<|ε ?_;refine ν<|θ<|γ U<|ε ?_;refine aK<|ae (ahA (i:=i) hlen ψ vH (eU i ψ) (by have:=Ch (ho i ψ);rw[tI ψ]at this;exact this) hc ?_ _ 0 0 rfl (by omega) (by rw[jS]) (by omega) (by omega)) ⟨rfl,rfl,rfl,rfl,rfl,trivial⟩;intro E1 s1;refine dB s1 ?_;have M6:(dz ts i).length=ts.length:=Aw (by omega);have io:=hc.Jz M6;have D5:i<(dz ts i).length:=by omega
  have hb:=Wq (l:=dl ts i) (b:=i) ts[i].kids 0 (λk=>(MF ts i k).1) (by omega);refine aR<|γ U<|γ U<|γ U<|cK U U ⟨by omega,by omega⟩<|bh U U io D5<|ct U U hc.2 (Ck D5 _ (by simp[V.off])) <| λh1 a1 b1=>ε ?_;rw[show wP (dl ts i) ts[i].kids 0=wP (dl ts i) (rT ts i) 0 by rw[tI ψ],Wr ψ]at a1;refine aR<|γ U<|cK U U ⟨by omega,by omega⟩<|γ U<|ε ?_;exact ae (ih (i+1) h1 (by omega) (by omega) (he.aA b1 CY) ⟨hc.1,a1⟩) ⟨rfl,rfl,rfl,trivial⟩
end
theorem ahC(hC:Cd C){t:V}{ts:List Nd}(ht:db h n t ts)(hlen:ts.length<1000000)(eU:∀i (hi:i<ts.length),ts[i].kids.length<1000000)(ho:∀j,j<ts.length->ord ts j=true)
 (hQ:∀v' h' n',Ext h n h' n'->gh h' n' .i64 v' (dl ts ts.length)->Q v' h' n'):τ C (.f 114 [] []) [t] h n Q:=by
 refine τ.go hC.f114 U ?_;obtain⟨cs,hs⟩:=ht.sl;refine θ<|γ U<|ε ?_;refine θ<|γ U<|aG U hs<|uX U U (by omega) (by omega) <| λh1 n1 dZ a1 e1=>γ U<|ε ?_;rw[Ws]at a1;have zg:Cl h1 n1 n (eI .i64 (dz ts 0)) 3:=⟨by omega,by rw[a1];simp[dz,dl]⟩;refine ν<|θ<|γ U<|ε ?_;refine aK<|ae (ahB ht hlen eU ho (Γ _) ?_ _ 0 h1 rfl (by omega) e1 zg) ⟨rfl,rfl,rfl,trivial⟩;intro h2 E2 e2 c2 s2;refine dB s2 ?_;refine θ<|γ U<|γ U<|ε (aj ⟨_,rfl,hQ _ h2 n1 e2 (c2.Jz (rU ts _))⟩)
theorem ahD(hC:Cd C){t:V}{ts:List Nd}{x:Nd}{vv kv:V}{b:K}(ht:db h n t ts)(hlen:ts.length<1000000)(hk:gh h n .i64 kv x.kids)(eU:x.kids.length<1000000)(hr:∀k∈x.kids,0<=k/\k<ts.length)(hb:Cl h n b (dT x vv kv) 87):
 ∀(r j:Nat),x.kids.length - j=r->j<=x.kids.length->Q (.b (!nW ts x.op x.kids.length (x.kids.drop j) j)) h n->WC C Tp [(k0,t),(k3,.p b 0),(k5,.i .i64 (j:Nat))] h n (blk 0 (sq C Lz (fq [.t k4] Q))):=by
 intro r
 induction r with
 | zero=>
  intro j hj CS hQ;have:j=x.kids.length:=by omega
  subst this;refine aQ ?_;refine ν<|θ<|γ U<|Ω U<|χ U (hb.ld U _)<|aG U hk<|aP U U<|ε ?_;refine aE U (by simp)<|bW ?_;refine θ<|γ U<|ε (aj ⟨_,rfl,by simpa[nW]using hQ⟩)
 | succ r ih=>
  intro j hj CS hQ;have ψ:j<x.kids.length:=by omega
  have j7:=hr x.kids[j] (dU _);rw[gi ψ,nW]at hQ;obtain⟨k',gD⟩:∃k':Nat,x.kids[j]=(k':Int):=⟨x.kids[j].toNat,by omega⟩;have hg:=hk.get ψ 1;rw[gD]at j7 hQ hg;have Av:k'<ts.length:=by omega
  obtain⟨vv',kv',hx⟩:=ht.node Av;obtain⟨cs,hs⟩:=ht.sl;rw[show((k':Int)).toNat=k' from rfl,EO Av]at hQ;have fin:∀(due:Bool),(if x.op=17\/x.op=18 then decide (ts[k'].op=19)==decide ((j:Int)=(x.kids.length:Int) - 1) else decide (ts[k'].op=19))=!(decide (ts[k'].op=19)==due)->WC C Tm [(k0,t),(k3,.p b 0),(k5,.i .i64 (j:Nat)),(k6,.b due)] h n (blk 1 (sq C Tn (sq C (.loop To) (blk 0 (sq C Lz (fq [.t k4] Q)))))):=by
   intro due hd;rw[hd]at hQ;refine θ<|γ U<|Ω U<|χ U (hb.ld U _)<|γ U<|bh U U hk ψ<|χ U hg<|bh U U hs Av<|Ω U<|χ U (hx.op _)<|bQ U U<|γ U<|Lg U U<|ε ?_;refine di U (λhc=>?_) (λhc=>ao ?_)
   ·rw[hc]at hQ;refine θ<|γ U<|ε (aj ⟨_,rfl,by simpa using hQ⟩)
   ·rw[hc]at hQ;refine aR<|γ U<|cK U U ⟨by omega,by omega⟩<|γ U<|ε ?_;exact ae (ih (j+1) (by omega) (by omega) (by simpa using hQ)) ⟨rfl,rfl,rfl,trivial⟩
  refine aQ ?_;refine ν<|θ<|γ U<|Ω U<|χ U (hb.ld U _)<|aG U hk<|aP U U<|ε ?_;refine aD U (by simp<;>omega)<|ao<|ν<|aK ?_;by_cases hq:x.op=17\/x.op=18
  ·refine θ<|Ω U<|χ U (hb.ld U _)<|al U U<|OV hC<|γ U<|κ U (by simp[hq])<|γ U<|κ U (by simp[hq])<|Ω U<|κ U (by simp[hq])<|χ U (hb.ld U _)<|κ U (by simp[hq])<|aG U hk<|κ U (by simp[hq])<|jg U U ⟨by omega,by omega⟩<|κ U (by simp[hq])<|aP U U<|cg U (by simp[hq]) U<|γ U<|ε ?_;refine ae (fin (decide ((j:Int)<(x.kids.length:Int) - 1)) ?_) ⟨rfl,rfl,rfl,rfl,trivial⟩;rw[az hq];have:decide ((j:Int)=(x.kids.length:Int) - 1)=!decide ((j:Int)<(x.kids.length:Int) - 1):=by
    by_cases h:(j:Int)<(x.kids.length:Int) - 1
    ·simp[h];omega
    ·simp[h];omega
   rw[this];cases decide (ts[k'].op=19)<;>cases decide ((j:Int)<(x.kids.length:Int) - 1)<;>rfl
  ·refine θ<|Ω U<|χ U (hb.ld U _)<|al U U<|OV hC<|γ U<|σ U (by simp[hq])<|σ U (by simp[hq])<|σ U (by simp[hq])<|σ U (by simp[hq])<|σ U (by simp[hq])<|σ U (by simp[hq])<|bE U (by simp[hq]) U<|γ U<|ε ?_;refine ae (fin false ?_) ⟨rfl,rfl,rfl,rfl,trivial⟩;rw[ai hq];cases decide (ts[k'].op=19)<;>rfl
theorem ahE(hC:Cd C){t:V}{ts:List Nd}{x:Nd}{vv kv:V}(ht:db h n t ts)(hlen:ts.length<1000000)(hv:vv.one=true)(hk:gh h n .i64 kv x.kids)(eU:x.kids.length<1000000)(hr:∀k∈x.kids,0<=k/\k<ts.length)
 (hQ:∀h' n',Ext h n h' n'->Q (.b (!nW ts x.op x.kids.length x.kids 0)) h' n'):τ C (.f 110 [] []) [t,.a (dT x vv kv)] h n Q:=by
 refine τ.go hC.f110 U ?_;refine θ<|eL U U (kU x hv (ρ.one hk)) <| λh1 n1 dZ a1 e1=>γ U<|ε ?_;refine ν<|θ<|γ U<|ε ?_;exact aK<|ae (ahD hC (ht.ext e1) hlen (hk.ext e1) eU hr ⟨by omega,a1⟩ _ 0 rfl (by omega) (hQ _ _ e1)) ⟨rfl,rfl,rfl,trivial⟩
def kA(x:Nd):Int:=
 if x.op=2 then (if isNumeral x.name then 0 else 6) else if x.op=3 then (if rW x.name then 0 else 6) else if x.op=4 then (if x.name=[] then 6 else 0) else (if x.name=[] then 0 else 6)
theorem ahF(hC:Cd C){x:Nd}{vv kv:V}(hv:vv.one=true)(hk:kv.one=true)(hl:x.name.length<1000000)(hQ:∀h' n',Ext h n h' n'->Q (.i .i64 (kA x)) h' n'):τ C (.f 111 [] []) [.a (dT x vv kv)] h n Q:=by
 refine τ.go hC.f111 U ?_;refine θ<|eL U U (kU x hv hk) <| λh1 n1 dZ a1 e1=>γ U<|ε ?_;have lo:cD h1 false 1 (.p n (0+0))=some (.i .i64 x.op):=dV a1 rfl _;have ln:cD h1 false 1 (.p n (0+2))=some (st x.name):=dV a1 rfl _;refine θ<|Ω U<|χ U ln<|gg (b:=[]) U U<|γ U<|ε ?_;refine ν<|θ<|Ω U<|χ U lo<|ε ?_;have fin:∀(b:Bool) h2 n2,Ext h1 n1 h2 n2->kA x=(if b then 0 else 6)->WC C Tq [(k3,.b b)] h2 n2 (fq [.t k2] Q):=by intro b h2 n2 e2 hb;have:=hQ h2 n2 (e1.trans e2);rw[hb]at this;refine θ<|γ U<|dR U<|al U U<|pe hC<|γ U<|ε (aj ⟨_,rfl,by cases b<;>simpa using this⟩)
 refine aK<|θ<|bQ U U<|γ U<|ε ?_;refine di U (λhx=>?_) (λhx=>?_)
 ·simp only[bT]at hx;refine aR<|Ω U<|χ U ln<|al U U<|ahn hC hl <| λh2 n2 e2=>γ U<|ε ?_;exact ae (fin (isNumeral x.name) h2 n2 e2 (by simp[kA,hx])) ⟨rfl,trivial⟩
 simp only[dn]at hx;refine θ<|bQ U U<|γ U<|ε ?_;refine di U (λjQ=>?_) (λjQ=>?_)
 ·simp only[bT]at jQ;refine aR<|Ω U<|χ U ln<|al U U<|w50 hC (by omega)<|γ U<|ε ?_;exact ae (fin (rW x.name) _ _ (Ext.refl _ _) (by simp[kA,jQ])) ⟨rfl,trivial⟩
 simp only[dn]at jQ;refine θ<|bQ U U<|γ U<|ε ?_;refine di U (λmK=>?_) (λmK=>ao ?_)
 ·simp only[bT]at mK;refine aR<|Ω U<|χ U ln<|rN (b:=[]) U U<|γ U<|ε ?_;refine ae (fin (!decide (x.name=[])) _ _ (Ext.refl _ _) ?_) ⟨rfl,trivial⟩;by_cases h:x.name=[]<;>simp[kA,mK,h]
 simp only[dn]at mK;refine ae (fin (decide (x.name=[])) _ _ (Ext.refl _ _) ?_) ⟨rfl,trivial⟩;by_cases h:x.name=[]<;>simp[kA,hx,jQ,mK,h]
end
section
variable {C:Nat->Option bP}{h:Hf}{n:K}{Q:V->Hf->K->Prop}
def yQ(l:List (S×S)):Nat->Nat->Int
 | 0,_=>0
 | m+1,i=>match l[i]? with
  | none=>0
  | some v=>if rW v.1=false then 6 else if v.1∈(l.take i).map Prod.fst then 7 else yQ l m (i+1)
def kB(x:Nd):Int:=
 if x.op=17\/x.op=18 then (if x.vars.length<1\/12<x.vars.length then 5 else yQ x.vars x.vars.length 0) else if 0<x.vars.length then 5 else 0
theorem fC.sub{h:Hf}{n0:K}{v:V}{l:List (S×S)}{i j:Nat}(a:ρ h n0 2 v (j - i) (((px l).drop (i*2)).take ((j - i)*2)))(hj:j<=l.length):fC h n0 v ((l.drop i).take (j - i)):=by
 rw[Ru]at a;unfold fC;have:((l.drop i).take (j - i)).length=j - i:=by simp;omega
 rw[this];exact a
theorem ahG(hC:Cd C){x:Nd}{vv kv:V}{b:K}(hv:fC h n vv x.vars)(ug:x.vars.length<1000)(AI:∀v∈x.vars,v.1.length<10000000)(hb:Cl h n b (dT x vv kv) 87):
 ∀(m i:Nat),x.vars.length - i=m->i<=x.vars.length->Q (.i .i64 (yQ x.vars m i)) h n->WC C T6 [(k1,.p b 0),(k5,.i .i64 (i:Nat))] h n (blk 0 (sq C T7 (fq [.t k2] Q))):=by
 intro m;have lv:cD h false 1 (.p b (0+3))=some vv:=hb.ld U _
 induction m with
 | zero=>
  intro i hm hi hQ;have:i=x.vars.length:=by omega
  subst this;refine aQ ?_;refine ν<|θ<|γ U<|Ω U<|χ U lv<|aG U hv<|aP U U<|ε ?_;refine aE U (by simp)<|bW ?_;refine θ<|γ U<|ε (aj ⟨_,rfl,hQ⟩)
 | succ m ih=>
  intro i hm hi hQ;have ψ:i<x.vars.length:=by omega
  simp only[yQ,gP ψ]at hQ;have M7:=AI _ (dU ψ);refine aQ ?_;refine ν<|θ<|γ U<|Ω U<|χ U lv<|aG U hv<|aP U U<|ε ?_;refine aD U (by simp<;>omega)<|ao ?_;refine ν<|aK<|ν<|θ<|Ω U<|χ U lv<|γ U<|bh U U hv ψ<|Ω U<|χ U (hv.name ψ _)<|al U U<|w50 hC M7<|dR U<|al U U<|pe hC<|γ U<|ε ?_;cases hp:rW x.vars[i].1 with
  | false=>
   rw[hp]at hQ;refine θ<|γ U<|fT U U<|ε ?_;refine aD U (by simp) ?_;refine θ<|γ U<|γ U<|ε (aj ⟨_,rfl,by simpa using hQ⟩)
  | true=>
   rw[hp]at hQ;refine θ<|γ U<|fT U U<|ε ?_;refine aE U (by simp)<|ao ?_;refine eS<|dG U<|bc U lv (hv.below (Γ _)) (ρ.dX hv)<|aL U<|RR U hv U U (by omega) ((show i<=_ by omega)) <| λv3 i3 l3=>dG U<|bc U lv (hv.below (Γ _)) (ρ.dX hv)<|aL U<|et U U hv ψ<|dG U<|bc U (hv.name ψ _) U (nQ _ _)<|cJ U U<|ahs hC (fC.sub i3 (by omega)) (by simp<;>omega)<|Ei U U<|dQ (by simp[AG,mn,pv,Nat.testBit]) ?_;rw[Wo,jS,rA];refine di U (λhc=>?_) (λhc=>ao ?_)
   ·simp only[bT]at hc;rw[ai (by simp),az hc]at hQ;refine θ<|γ U<|ε (aj ⟨_,rfl,hQ⟩)
   ·simp only[dn]at hc;rw[ai (by simp),ai hc]at hQ;refine aR<|γ U<|cK U U ⟨by omega,by omega⟩<|γ U<|ε ?_;exact ae (ih (i+1) (by omega) (by omega) hQ) ⟨rfl,rfl,trivial⟩
theorem ahH(hC:Cd C){x:Nd}{vv kv:V}(hv:fC h n vv x.vars)(hk:kv.one=true)(ug:x.vars.length<1000)(AI:∀v∈x.vars,v.1.length<10000000)(hQ:∀h' n',Ext h n h' n'->Q (.i .i64 (kB x)) h' n'):τ C (.f 112 [] []) [.a (dT x vv kv)] h n Q:=by
 refine τ.go hC.f112 U ?_;refine θ<|eL U U (kU x (ρ.one hv) hk) <| λh1 n1 dZ a1 e1=>γ U<|ε ?_;have hb:Cl h1 n1 n (dT x vv kv) 87:=⟨by omega,a1⟩;have lv:cD h1 false 1 (.p n (0+3))=some vv:=hb.ld U _;have lo:cD h1 false 1 (.p n (0+0))=some (.i .i64 x.op):=hb.ld U _;have ji:=hv.ext e1;have hQ:=hQ h1 n1 e1;have go:kB x=yQ x.vars x.vars.length 0->WC C LJ [(k1,.p n 0)] h1 n1 (fq [.t k2] Q):=by intro he;rw[he]at hQ;refine ν<|θ<|γ U<|ε ?_;exact aK<|ae (ahG hC ji ug AI hb _ 0 rfl (by omega) hQ) ⟨rfl,rfl,trivial⟩
 have bad:kB x=5->WC C T5 [] h1 n1 (sq C LJ (fq [.t k2] Q)):=by intro he;rw[he]at hQ;refine θ<|γ U<|ε (aj ⟨_,rfl,hQ⟩)
 refine θ<|γ U<|γ U<|ε ?_;refine ν<|θ<|Ω U<|χ U lo<|al U U<|OV hC<|ε ?_;by_cases hq:x.op=17\/x.op=18
 ·refine aD U (by simp[hq]) ?_;refine aR<|γ U<|γ U<|ε ?_;by_cases h1:x.vars.length<1
  ·refine ν<|θ<|Ω U<|χ U lv<|aG U ji<|γ U<|aP U U<|γ U<|σ U (by simp<;>omega)<|σ U (by simp<;>omega)<|σ U (by simp<;>omega)<|σ U (by simp<;>omega)<|σ U (by simp<;>omega)<|cg U (by simp<;>omega) U<|ε ?_;exact aD U U<|ae (bad (by simp only[kB,az hq,az (Or.inl h1)])) trivial
  ·refine ν<|θ<|Ω U<|χ U lv<|aG U ji<|γ U<|aP U U<|γ U<|κ U (by simp<;>omega)<|Ω U<|κ U (by simp<;>omega)<|χ U lv<|κ U (by simp<;>omega)<|aG U ji<|κ U (by simp<;>omega)<|γ U<|κ U (by simp<;>omega)<|cQ U U<|bE U (by simp<;>omega) U<|ε ?_;by_cases h2:12<x.vars.length
   ·exact aD U (by simp<;>omega)<|ae (bad (by simp only[kB,az hq,az (Or.inr h2)])) trivial
   ·exact aE U (by simp<;>omega)<|ao<|ae (go (by simp only[kB,az hq];rw[ai (by omega)])) ⟨rfl,trivial⟩
 ·refine aE U (by simp[hq])<|ao ?_;refine ν<|θ<|Ω U<|χ U lv<|aG U ji<|γ U<|aP U U<|γ U<|κ U (by simp<;>omega)<|Ω U<|κ U (by simp<;>omega)<|χ U lv<|κ U (by simp<;>omega)<|aG U ji<|κ U (by simp<;>omega)<|γ U<|κ U (by simp<;>omega)<|cQ U U<|bE U (by simp<;>omega) U<|ε ?_;by_cases h2:0<x.vars.length
  ·exact aD U (by simp<;>omega)<|ae (bad (by simp only[kB,ai hq,az h2])) trivial
  ·refine aE U (gj (by omega))<|ao<|ae (go ?_) ⟨rfl,trivial⟩;have:x.vars.length=0:=by omega
   simp only[kB,ai hq,ai h2,this];rfl
def nY(x:Nd):Int:=
 if x.op=2 then (if x.sort=nX/\gK x.name=0\/x.sort=pd/\nV x.name=0 then 0 else 13)
 else if x.op=12\/x.op=13\/x.op=14 then (if x.sort=nX\/x.sort=pd then 0 else 13)
 else if x.op=3\/x.op=4\/x.op=10 then (if x.sort=[] then 13 else 0)
 else if x.op=19 then (if x.sort=[] then 0 else 13)
 else (if x.sort=Cj then 0 else 13)
theorem ahI(hC:Cd C){x:Nd}{vv kv:V}(hv:vv.one=true)(hk:kv.one=true)(hl:x.name.length<1000000)(hQ:∀h' n',Ext h n h' n'->Q (.i .i64 (nY x)) h' n'):τ C (.f 113 [] []) [.a (dT x vv kv)] h n Q:=by
 refine τ.go hC.f113 U ?_;refine θ<|eL U U (kU x hv hk) <| λh1 n1 dZ a1 e1=>γ U<|ε ?_;have lo:cD h1 false 1 (.p n (0+0))=some (.i .i64 x.op):=dV a1 rfl _;have ls:cD h1 false 1 (.p n (0+1))=some (st x.sort):=dV a1 rfl _;have ln:cD h1 false 1 (.p n (0+2))=some (st x.name):=dV a1 rfl _;refine θ<|Ω U<|χ U ls<|gg (b:=[66,111,111,108]) U U<|γ U<|ε ?_;refine ν<|θ<|Ω U<|χ U lo<|ε ?_;have fin:∀(b:Bool) h2 n2,Ext h1 n1 h2 n2->nY x=(if b then 0 else 13)->WC C Ii [(k3,.b b)] h2 n2 (fq [.t k2] Q):=by intro b h2 n2 e2 hb;have:=hQ h2 n2 (e1.trans e2);rw[hb]at this;refine θ<|γ U<|dR U<|al U U<|pe hC<|γ U<|ε (aj ⟨_,rfl,by cases b<;>simpa using this⟩)
 generalize fm:x.op=op at*;refine aK<|θ<|bQ U U<|γ U<|ε ?_;refine di U (λhx=>?_) (λhx=>?_)
 ·simp only[bT]at hx;have Y3:x.sort=nX->¬ x.sort=pd:=λe=>by rw[e];decide
  by_cases h1:x.sort=nX
  ·have h2:=Y3 h1;by_cases h3:gK x.name=0
   ·refine aR<|Ω U<|χ U ls<|gg (b:=[73,110,116]) U U<|γ U<|κ U (by simp[h1])<|Ω U<|κ U (by simp[h1])<|χ U ln<|κ U (by simp[h1])<|al U U<|Cm hC hl<|κ U (by simp[h1])<|bQ U U<|cg U (by simp[h1]) U<|γ U<|σ U (by simp[h3])<|σ U (by simp[h3])<|σ U (by simp[h3])<|σ U (by simp[h3])<|eX U<|eX U<|eX U<|eX U<|σ U (by simp[h3])<|cg U (by simp[h3]) U<|γ U<|ε ?_;exact ae (fin true _ _ (Ext.refl _ _) (by simp[nY,fm,hx,h1,h3])) ⟨rfl,trivial⟩
   ·refine aR<|Ω U<|χ U ls<|gg (b:=[73,110,116]) U U<|γ U<|κ U (by simp[h1])<|Ω U<|κ U (by simp[h1])<|χ U ln<|κ U (by simp[h1])<|al U U<|Cm hC hl<|κ U (by simp[h1])<|bQ U U<|cg U (by simp[h1]) U<|γ U<|κ U (by simp[h3])<|Ω U<|κ U (by simp[h3])<|χ U ls<|κ U (by simp[h3])<|gg (b:=[82,101,97,108]) U U<|κ U (by simp[h3])<|γ U<|σ U (by simp[h2])<|σ U (by simp[h2])<|σ U (by simp[h2])<|σ U (by simp[h2])<|κ U (by simp[h3])<|bE U (by simp[h2]) U<|bE U (by simp[h3]) U<|γ U<|ε ?_;exact ae (fin false _ _ (Ext.refl _ _) (by simp[nY,fm,hx,h1,h3])) ⟨rfl,trivial⟩
  ·by_cases h2:x.sort=pd
   ·refine aR<|Ω U<|χ U ls<|gg (b:=[73,110,116]) U U<|γ U<|σ U (by simp[h1])<|σ U (by simp[h1])<|σ U (by simp[h1])<|σ U (by simp[h1])<|bE U (by simp[h1]) U<|γ U<|κ U U<|Ω U<|κ U U<|χ U ls<|κ U U<|gg (b:=[82,101,97,108]) U U<|κ U U<|γ U<|κ U (by simp[h2])<|Ω U<|κ U (by simp[h2])<|χ U ln<|κ U (by simp[h2])<|al U U<|WQ hC hl <| λh9 n9 e9=>κ U (by simp[h2])<|bQ U U<|κ U U<|cg U (by simp[h2]) U<|bE U U U<|γ U<|ε ?_;refine ae (fin (decide (nV x.name=0)) _ _ e9 ?_) ⟨rfl,trivial⟩;by_cases h3:nV x.name=0<;>simp[nY,fm,hx,h2,h3]
   ·refine aR<|Ω U<|χ U ls<|gg (b:=[73,110,116]) U U<|γ U<|σ U (by simp[h1])<|σ U (by simp[h1])<|σ U (by simp[h1])<|σ U (by simp[h1])<|bE U (by simp[h1]) U<|γ U<|κ U U<|Ω U<|κ U U<|χ U ls<|κ U U<|gg (b:=[82,101,97,108]) U U<|κ U U<|γ U<|σ U (by simp[h2])<|σ U (by simp[h2])<|σ U (by simp[h2])<|σ U (by simp[h2])<|κ U U<|bE U (by simp[h2]) U<|bE U U U<|γ U<|ε ?_;exact ae (fin false _ _ (Ext.refl _ _) (by simp[nY,fm,hx,h1,h2])) ⟨rfl,trivial⟩
 simp only[dn]at hx;have f5:op=12\/op=13\/op=14->WC C Ub [(k1,.p n 0),(bV,.b true)] h1 n1 (blk 0 (sq C Ii (fq [.t k2] Q))):=by
  intro ho;refine aD U U ?_;by_cases h1:x.sort=nX
  ·refine aR<|Ω U<|χ U ls<|gg (b:=[73,110,116]) U U<|γ U<|σ U (by simp[h1])<|σ U (by simp[h1])<|σ U (by simp[h1])<|cg U (by simp[h1]) U<|γ U<|ε ?_;exact ae (fin true _ _ (Ext.refl _ _) (by simp only[nY,fm,ai hx,az ho,az (Or.inl h1)];rfl)) ⟨rfl,trivial⟩
  ·refine aR<|Ω U<|χ U ls<|gg (b:=[73,110,116]) U U<|γ U<|κ U (by simp[h1])<|Ω U<|κ U (by simp[h1])<|χ U ls<|κ U (by simp[h1])<|gg (b:=[82,101,97,108]) U U<|bE U (by simp[h1]) U<|γ U<|ε ?_;refine ae (fin (decide (x.sort=pd)) _ _ (Ext.refl _ _) ?_) ⟨rfl,trivial⟩;by_cases h2:x.sort=pd<;>simp[nY,fm,hx,ho,h1,h2]
 refine ν<|θ<|bQ U U<|γ U<|ε ?_;refine di U (λg0=>ao ?_) (λg0=>?_)
 ·simp only[bT]at g0;exact ae (f5 (by omega)) ⟨rfl,by show some (V.b _)=_;simp[g0],trivial⟩
 simp only[dn]at g0;refine θ<|bQ U U<|γ U<|ε ?_;refine di U (λg1=>ao ?_) (λg1=>?_)
 ·simp only[bT]at g1;exact ae (f5 (by omega)) ⟨rfl,by show some (V.b _)=_;simp[g1],trivial⟩
 simp only[dn]at g1;refine aR<|bQ U U<|γ U<|ε ?_;by_cases g2:op=14
 ·exact ae (f5 (by omega)) ⟨rfl,by show some (V.b _)=_;simp[g2],trivial⟩
 have k1:¬ (op=12\/op=13\/op=14):=by omega
 refine aE U (by simp[g2]) ?_;have f10:op=3\/op=4\/op=10->WC C Ua [(X.k1,.p n 0),(de,.b true)] h1 n1 (blk 0 (sq C Ii (fq [.t k2] Q))):=by intro ho;refine aD U U ?_;refine aR<|Ω U<|χ U ls<|rN (b:=[]) U U<|γ U<|ε ?_;refine ae (fin (!decide (x.sort=[])) _ _ (Ext.refl _ _) ?_) ⟨rfl,trivial⟩;by_cases h2:x.sort=[]<;>simp[nY,fm,hx,k1,ho,h2]
 refine ν<|θ<|bQ U U<|γ U<|ε ?_;refine di U (λg3=>ao ?_) (λg3=>?_)
 ·simp only[bT]at g3;exact ae (f10 (by omega)) ⟨rfl,by show some (V.b _)=_;simp[g3],trivial⟩
 simp only[dn]at g3;refine θ<|bQ U U<|γ U<|ε ?_;refine di U (λg4=>ao ?_) (λg4=>?_)
 ·simp only[bT]at g4;exact ae (f10 (by omega)) ⟨rfl,by show some (V.b _)=_;simp[g4],trivial⟩
 simp only[dn]at g4;refine aR<|bQ U U<|γ U<|ε ?_;by_cases g5:op=10
 ·exact ae (f10 (by omega)) ⟨rfl,by show some (V.b _)=_;simp[g5],trivial⟩
 have Js:¬ (op=3\/op=4\/op=10):=by omega
 refine aE U (by simp[g5]) ?_;refine θ<|bQ U U<|γ U<|ε ?_;refine di U (λg6=>?_) (λg6=>ao ?_)
 ·simp only[bT]at g6;refine aR<|Ω U<|χ U ls<|gg (b:=[]) U U<|γ U<|ε ?_;refine ae (fin (decide (x.sort=[])) _ _ (Ext.refl _ _) ?_) ⟨rfl,trivial⟩;by_cases h2:x.sort=[]<;>simp[nY,fm,hx,k1,Js,g6,h2]
 simp only[dn]at g6;refine ae (fin (decide (x.sort=Cj)) _ _ (Ext.refl _ _) ?_) ⟨rfl,trivial⟩;by_cases h2:x.sort=Cj<;>simp[nY,fm,hx,k1,Js,g6,h2]
end
section
variable {C:Nat->Option bP}{h:Hf}{n:K}{Q:V->Hf->K->Prop}
structure Bd(ts:List Nd):Prop where
 len:ts.length<100000
 qg:∀i (hi:i<ts.length),ts[i].kids.length<1000000
 nm:∀i (hi:i<ts.length),ts[i].name.length<1000000
 vl:∀i (hi:i<ts.length),ts[i].vars.length<1000
 vn:∀i (hi:i<ts.length),∀v∈ts[i].vars,v.1.length<10000000
def rX(op:Int):Bool:=decide (op<0)||decide (20<=op)
def AJ(ts:List Nd)(x:Nd):Int:=eD [if nW ts x.op x.kids.length x.kids 0 then 11 else 0,kA x,kB x,nY x]
def mz(ts:List Nd)(x:Nd)(i:Nat):Int:=eD [if rX x.op then 11 else 0,if jj x.op x.kids.length then 0 else 2,if ord ts i then 0 else 9]
def nZ(ts:List Nd)(i:Nat):Int:=
 match ts[i]? with
 | none=>0
 | some x=>if mz ts x i≠0 then mz ts x i else AJ ts x
def mA(ts:List Nd):Nat->Nat->Int
 | 0,_=>0
 | m+1,i=>if nZ ts i≠0 then nZ ts i else mA ts m (i+1)
def AK(ts:List Nd):Int:=eD [if fs ts (ts.length - 1)=0 then 0 else 9,if tJ ts (ts.length - 1)=19 then 11 else 0,if 60<EP ts then 24 else 0]
def dN(ts:List Nd):Int:=
 if ts.length=0 then 10 else if 2000<ts.length then 5 else if mA ts ts.length 0≠0 then mA ts ts.length 0 else AK ts
theorem IJ{ts:List Nd}{i:Nat}(hi:i<ts.length):nZ ts i=if mz ts ts[i] i≠0 then mz ts ts[i] i else AJ ts ts[i]:=by simp[nZ,hi]
theorem M8{ts:List Nd}{x:Nd}{i:Nat}(h:mz ts x i=0):ord ts i=true:=by
 unfold mz at h;rw[MX]at h;by_cases ho:ord ts i=true
 ·exact ho
 ·by_cases h1:rX x.op=true<;>by_cases h2:jj x.op x.kids.length=true<;>simp[h1,h2,ho]at h
theorem EY{ts:List Nd}{i:Nat}(hi:i<ts.length)(ho:ord ts i=true):∀k∈ts[i].kids,0<=k/\k<ts.length:=by intro k hk;have:=Ch ho k (by rw[tI hi];exact hk);omega
theorem ahJ(hC:Cd C){t vf:V}{ts:List Nd}{i:Nat}(hb:Bd ts)(ht:db h n t ts)(hF:bj h n .i64 vf (fl ts ts.length))(hi:i<ts.length)
 {Q1:Ex->Env->Hf->K->Prop}
 (wV:∀E' h' n' e,e=nZ ts i->e≠0->Ext h n h' n'->lk E' k2=some (.i .i64 e)->Q1 .ret E' h' n')
 (rS:nZ ts i=0->∀E' h' n',Ext h n h' n'->da [(k0,t),(k4,vf),(k5,.i .i64 (i:Nat))] E'->Q1 .normal E' h' n'):
 WC C S7 [(k0,t),(k4,vf),(k5,.i .i64 (i:Nat))] h n Q1:=by
 obtain⟨cs,hs⟩:=ht.sl;obtain⟨vv,kv,hx⟩:=ht.node hi;have eF:=kU ts[i] (ρ.one hx.vars) (ρ.one hx.kids);refine θ<|γ U<|γ U<|bh U U hs hi<|χ U hx.all<|ea <| λh1 n1 dZ a1 e1=>ct U U a1 (ff rfl rfl eF) <| λh2 a2 b2=>ε ?_;have e2:Ext h n h2 n1:=e1.aA b2 (Γ _);have c6:Cl h2 n1 n (dT ts[i] vv kv) 87:=⟨by omega,a2⟩;have row:∀{h' n'},Ext h2 n1 h' n'->cD h' true 5 (.p n 0)=some (.a (dT ts[i] vv kv)):=λe=>cz (c6.ext e).2 rfl;have j0:∀{h' n'} (k:K),n1.num<=k.num->Ext h2 n1 h' n'->cD (hp h' k none) true 5 (.p n 0)=some (.a (dT ts[i] vv kv)):=λk hk e=>cz (c6.ext (e.aA (lI _ k none) hk)).2 rfl;have lo:cD h2 false 1 (.p n (0+0))=some (.i .i64 ts[i].op):=c6.ld U _;have JH:∀{n':K},n.num<=n'.num->cu n' (.a (dT ts[i] vv kv))=true:=by intro n' hn;have h1:=ρ.below hx.vars hn;have h2:=ρ.below hx.kids hn;simp only[cu,dT,gZ,h1,h2];rfl
 have dX:dH (.a (dT ts[i] vv kv)) (.a (dT ts[i] vv kv))=true:=by have h1:=ρ.dX hx.vars;have h2:=ρ.dX hx.kids;simp only[dH,dT];exact tj (gS _ _) (tj (nQ _ _) (tj (nQ _ _) (tj h1 (tj h2 rfl))))
 have Jp:=ht.ext e2;have iG:=hx.vars.ext e2;have pB:=hx.kids.ext e2;have hF2:=hF.ext e2;have hfo:=IC ts i (m:=ts.length) (by omega);rw[tI hi]at hfo;have r0:=row (Ext.refl _ _);have bC:=IJ hi;have hFg:∀j,(fl ts ts.length).getD j 0<=j:=λj=>IB ts;refine ν ?_;have mid:∀(E:Env) h3 n3,Ext h2 n1 h3 n3->lk E k0=some t->lk E k4=some vf->lk E k5=some (.i .i64 (i:Nat))->lk E k6=some (.p n 0)->lk E k7=some (.i .i64 (mz ts ts[i] i))->WC C S5 E h3 n3 (sq C S6 Q1):=by
  intro E h3 n3 e3 g0 g4 g5 g6 g7;refine ae (E':=[(k0,t),(k4,vf),(k5,.i .i64 (i:Nat)),(k6,.p n 0),(k7,.i .i64 (mz ts ts[i] i))]) ?_ ⟨g0,g4,g5,g6,g7,trivial⟩;refine θ<|γ U<|fT U U<|ε ?_;by_cases ho:mz ts ts[i] i=0
  ·refine aE U (by simp[ho])<|ao ?_;have Cq:=M8 ho;have j7:=EY hi Cq;have JI:=Jp.ext e3;have Gg:=pB.ext e3;have Az:=iG.ext e3;have r3:=row e3;have b3:=e3.1;rw[ai (by simp[ho])]at bC;refine eS<|aL U<|bc U r3 (JH (by omega)) dX<|cJ U U<|ahE hC JI (by have:=hb.len;omega) (ρ.one Az) Gg (hb.qg i hi) j7 <| λh5 n5 e5=>rP U<|cJ U U<|pe hC<|bc U (row (e3.trans e5)) (JH (by have:=e5.1;omega)) dX<|cJ U U<|ahF hC (ρ.one Az) (ρ.one Gg) (hb.nm i hi) <| λh6 n6 e6=>bc U (row ((e3.trans e5).trans e6)) (JH (by have:=e5.1;have:=e6.1;omega)) dX<|cJ U U<|ahH hC ((Az.ext e5).ext e6) (ρ.one Gg) (hb.vl i hi) (hb.vn i hi) <| λh7 n7 e7=>bc U (row (((e3.trans e5).trans e6).trans e7)) (JH (by have:=e5.1;have:=e6.1;have:=e7.1;omega)) dX<|cJ U U<|ahI hC (ρ.one Az) (ρ.one Gg) (hb.nm i hi) <| λh8 n8 e8=>uW U <| λh9 n9 OY a9 e9=>cJ U U<|CW hC.f48 (l:=[if (!!nW ts ts[i].op ts[i].kids.length ts[i].kids 0) then 11 else 0,kA ts[i],kB ts[i],nY ts[i]]) (ρ.whole (len:=4) (by omega) a9 rfl) (by simp)<|aL U<|dQ (⟨⟨ak (by simp[Nat.testBit]),ak (by simp[Nat.testBit]),dJ (j0 n8 (e3.trans e5 |>.trans e6 |>.trans e7 |>.trans e8).1 (e3.trans e5 |>.trans e6)) (j0 n8 (e3.trans e5 |>.trans e6 |>.trans e7 |>.trans e8).1 (e3.trans e5 |>.trans e6 |>.trans e7)),dJ (j0 n8 (e3.trans e5 |>.trans e6 |>.trans e7 |>.trans e8).1 (e3.trans e5)) (j0 n8 (e3.trans e5 |>.trans e6 |>.trans e7 |>.trans e8).1 (e3.trans e5 |>.trans e6)),dJ (j0 n8 (e3.trans e5 |>.trans e6 |>.trans e7 |>.trans e8).1 (e3.trans e5)) (j0 n8 (e3.trans e5 |>.trans e6 |>.trans e7 |>.trans e8).1 (e3.trans e5)),dJ (j0 n8 (e3.trans e5 |>.trans e6 |>.trans e7 |>.trans e8).1 e3) (j0 n8 (e3.trans e5 |>.trans e6 |>.trans e7 |>.trans e8).1 (e3.trans e5)),trivial⟩,⟨ak (by simp[Nat.testBit]),ak (by simp[Nat.testBit]),ak (by simp[Nat.testBit]),dJ (j0 n8 (e3.trans e5 |>.trans e6 |>.trans e7 |>.trans e8).1 (e3.trans e5)) (j0 n8 (e3.trans e5 |>.trans e6 |>.trans e7 |>.trans e8).1 (e3.trans e5 |>.trans e6)),dJ (j0 n8 (e3.trans e5 |>.trans e6 |>.trans e7 |>.trans e8).1 (e3.trans e5)) (j0 n8 (e3.trans e5 |>.trans e6 |>.trans e7 |>.trans e8).1 (e3.trans e5)),dJ (j0 n8 (e3.trans e5 |>.trans e6 |>.trans e7 |>.trans e8).1 e3) (j0 n8 (e3.trans e5 |>.trans e6 |>.trans e7 |>.trans e8).1 (e3.trans e5)),trivial⟩,⟨ak (by simp[Nat.testBit]),ak (by simp[Nat.testBit]),ak (by simp[Nat.testBit]),ak (by simp[Nat.testBit]),dJ (j0 n8 (e3.trans e5 |>.trans e6 |>.trans e7 |>.trans e8).1 (e3.trans e5)) (j0 n8 (e3.trans e5 |>.trans e6 |>.trans e7 |>.trans e8).1 (e3.trans e5)),dJ (j0 n8 (e3.trans e5 |>.trans e6 |>.trans e7 |>.trans e8).1 e3) (j0 n8 (e3.trans e5 |>.trans e6 |>.trans e7 |>.trans e8).1 (e3.trans e5)),trivial⟩,⟨ak (by simp[Nat.testBit]),ak (by simp[Nat.testBit]),ak (by simp[Nat.testBit]),ak (by simp[Nat.testBit]),ak (by simp[Nat.testBit]),ak (by simp[Nat.testBit]),trivial⟩,trivial⟩) ?_
   have e9':Ext h n h9 n9:=(((((e2.trans e3).trans e5).trans e6).trans e7).trans e8).trans e9;have ahO:eD [if (!!nW ts ts[i].op ts[i].kids.length ts[i].kids 0) then 11 else 0,kA ts[i],kB ts[i],nY ts[i]]=AJ ts ts[i]:=by rw[Bool.not_not];rfl
   rw[ahO];refine θ<|γ U<|fT U U<|ε ?_;by_cases qv:AJ ts ts[i]=0
   ·refine aE U (by simp[qv])<|ao (rS (by rw[bC,qv]) _ _ _ e9' ⟨rfl,rfl,rfl,trivial⟩)
   ·refine aD U (by simp[qv]) ?_;refine θ<|γ U<|γ U<|ε ?_;exact aj (wV _ _ _ _ bC.symm qv e9' rfl)
  ·refine aD U (by simp[ho]) ?_;rw[az ho]at bC;refine θ<|γ U<|γ U<|ε ?_;exact aj (wV _ _ _ _ bC.symm ho (e2.trans e3) U)
 have hO:mz ts ts[i] i=eD [if rX ts[i].op then 11 else 0,if (!jj ts[i].op ts[i].kids.length) then 2 else 0,if (!iT (λj=>(fl ts ts.length).getD j 0) ts[i].kids.reverse i) then 9 else 0]:=by rw[hfo];unfold mz;cases jj ts[i].op ts[i].kids.length<;>cases ord ts i<;>rfl
 by_cases fV:ts[i].op<0
 ·have rf:rX ts[i].op=true:=by simp[rX,fV]
  rw[rf]at hO;refine eS<|dG U<|bc U lo U (gS _ _)<|Lf U U<|aL U<|fc U (by simp[fV])<|fc U (by simp[fV])<|fc U (by simp[fV])<|BV U (by simp[fV]) U<|cJ U U<|pe hC<|bc U r0 (JH (by omega)) dX<|cJ U U<|WR hC (ρ.one iG) pB <| λh3 n3 e3=>rP U<|cJ U U<|pe hC<|aL U<|aL U<|aL U<|cJ U U<|MZ hC (Jp.ext e3) (by have:=hb.len;omega) hi (hF2.ext e3) (mZ ts _) hFg (hb.qg i hi)<|rP U<|cJ U U<|pe hC<|uW U <| λh4 n4 nE a4 e4=>cJ U U<|CW hC.f48 (l:=[11,if (!jj ts[i].op ts[i].kids.length) then 2 else 0,if (!iT (λj=>(fl ts ts.length).getD j 0) ts[i].kids.reverse i) then 9 else 0]) (ρ.whole (len:=3) (by omega) a4 rfl) (by simp)<|aL U<|dQ (⟨⟨ak (by simp[Nat.testBit]),ak (by simp[Nat.testBit]),ak (by simp[Nat.testBit]),ak (by simp[Nat.testBit]),ak (by simp[Nat.testBit]),dJ (j0 n3 e3.1 (Ext.refl _ _)) (j0 n3 e3.1 (Ext.refl _ _)),trivial⟩,⟨ak (by simp[Nat.testBit]),ak (by simp[Nat.testBit]),ak (by simp[Nat.testBit]),ak (by simp[Nat.testBit]),ak (by simp[Nat.testBit]),ak (by simp[Nat.testBit]),trivial⟩,trivial⟩) ?_
  exact mid _ h4 n4 (e3.trans e4) U U U U (by rw[hO];rfl)
 ·have rf:rX ts[i].op=decide (20<=ts[i].op):=by simp[rX,fV]
  rw[rf]at hO;refine eS<|dG U<|bc U lo U (gS _ _)<|Lf U U<|aL U<|bF U (by simp[fV])<|dG U<|bF U (by simp[fV])<|bc U lo U (gS _ _)<|bF U (by simp[fV])<|Ei U U<|rO U (by simp[fV]) U<|cJ U U<|pe hC<|bc U r0 (JH (by omega)) dX<|cJ U U<|WR hC (ρ.one iG) pB <| λh3 n3 e3=>rP U<|cJ U U<|pe hC<|aL U<|aL U<|aL U<|cJ U U<|MZ hC (Jp.ext e3) (by have:=hb.len;omega) hi (hF2.ext e3) (mZ ts _) hFg (hb.qg i hi)<|rP U<|cJ U U<|pe hC<|uW U <| λh4 n4 nE a4 e4=>cJ U U<|CW hC.f48 (l:=[if decide (20<=ts[i].op) then 11 else 0,if (!jj ts[i].op ts[i].kids.length) then 2 else 0,if (!iT (λj=>(fl ts ts.length).getD j 0) ts[i].kids.reverse i) then 9 else 0]) (ρ.whole (len:=3) (by omega) a4 rfl) (by simp)<|aL U<|dQ (⟨⟨ak (by simp[Nat.testBit]),ak (by simp[Nat.testBit]),ak (by simp[Nat.testBit]),ak (by simp[Nat.testBit]),ak (by simp[Nat.testBit]),dJ (j0 n3 e3.1 (Ext.refl _ _)) (j0 n3 e3.1 (Ext.refl _ _)),trivial⟩,⟨ak (by simp[Nat.testBit]),ak (by simp[Nat.testBit]),ak (by simp[Nat.testBit]),ak (by simp[Nat.testBit]),ak (by simp[Nat.testBit]),ak (by simp[Nat.testBit]),trivial⟩,⟨ak (by simp[Nat.testBit]),ak (by simp[Nat.testBit]),ak (by simp[Nat.testBit]),ak (by simp[Nat.testBit]),ak (by simp[Nat.testBit]),ak (by simp[Nat.testBit]),trivial⟩,trivial⟩) ?_
  exact mid _ h4 n4 (e3.trans e4) U U U U (by rw[hO];rfl)
theorem ahP(hC:Cd C){t vf:V}{ts:List Nd}{h0:Hf}{n0:K}(hb:Bd ts)(ht:db h0 n0 t ts)(hF:bj h0 n0 .i64 vf (fl ts ts.length)){Q1:Ex->Env->Hf->K->Prop}
 (wV:∀E' h' n' e,e=mA ts ts.length 0->e≠0->Ext h0 n0 h' n'->lk E' k2=some (.i .i64 e)->Q1 .ret E' h' n')
 (rS:mA ts ts.length 0=0->(∀j,j<ts.length->ord ts j=true)->∀E' h' n',Ext h0 n0 h' n'->da [(k0,t),(k4,vf)] E'->Q1 .normal E' h' n'):
 ∀(m i:Nat) (h:Hf) (n:K),ts.length - i=m->i<=ts.length->mA ts m i=mA ts ts.length 0->(∀j,j<i->ord ts j=true)->Ext h0 n0 h n->WC C S8 [(k0,t),(k4,vf),(k5,.i .i64 (i:Nat))] h n (blk 0 Q1):=by
 intro m
 induction m with
 | zero=>
  intro i h n hm hi hf ho he;have:i=ts.length:=by omega
  subst this;obtain⟨cs,hs⟩:=(ht.ext he).sl;refine aQ ?_;refine ν<|θ<|γ U<|γ U<|aG U hs<|aP U U<|ε ?_;exact aE U (by simp)<|bW (rS (by rw[←hf];rfl) ho _ _ _ he ⟨rfl,rfl,trivial⟩)
 | succ m ih=>
  intro i h n hm hi hf ho he;have ψ:i<ts.length:=by omega
  have hlen:=hb.len;obtain⟨cs,hs⟩:=(ht.ext he).sl;refine aQ ?_;refine ν<|θ<|γ U<|γ U<|aG U hs<|aP U U<|ε ?_;refine aD U (by simp<;>omega)<|ao<|ν<|aK ?_;refine ae (ahJ hC hb (ht.ext he) (hF.ext he) ψ ?_ ?_) ⟨rfl,rfl,rfl,trivial⟩
  ·intro E' h' n' e h1 h2 h3 h4;refine wV E' h' n' e ?_ h2 (he.trans h3) h4;rw[←hf,mA,az (by rw[←h1];exact h2)];exact h1
  ·intro h1 E' h' n' h2 h3;refine dB h3 ?_;refine aR<|γ U<|cK U U ⟨by omega,by omega⟩<|γ U<|ε ?_;refine ae (ih (i+1) h' n' (by omega) (by omega) ?_ ?_ (he.trans h2)) ⟨rfl,rfl,rfl,trivial⟩
   ·rw[←hf,mA,ai (by simp[h1])]
   ·intro j hj;by_cases Jv:j<i
    ·exact ho j Jv
    ·have:j=i:=by omega
     subst this;rw[IJ ψ]at h1;by_cases h5:mz ts ts[j] j=0
     ·exact M8 h5
     ·rw[az h5]at h1;exact absurd h1 h5
theorem JJ(hC:Cd C){t:V}{ts:List Nd}(hb:Bd ts)(ht:db h n t ts)(hQ:∀h' n',Ext h n h' n'->Q (.i .i64 (dN ts)) h' n'):τ C (.f 39 [] []) [t] h n Q:=by
 refine τ.go hC.f39 U ?_;obtain⟨cs,hs⟩:=ht.sl;have hlen:=hb.len;refine θ<|γ U<|ε ?_;refine ν<|θ<|γ U<|aG U hs<|bQ U U<|al U U<|pe hC<|γ U<|aG U hs<|cQ U U<|al U U<|pe hC<|fx U <| λh1 n1 dZ a1 e1=>al U U<|CW hC.f48 (l:=[if decide ((ts.length:Int)=0) then 10 else 0,if decide ((2000:Int)<ts.length) then 5 else 0]) (ρ.whole (len:=2) (by omega) a1 rfl) (by simp)<|γ U<|ε ?_
 rw[AE];refine θ<|γ U<|fT U U<|ε ?_;have ret:∀(e:Int) h' n',Ext h n h' n'->e=dN ts->WC C S4 [(k3,.i .i64 e)] h' n' (sq C S9 (fq [.t k2] Q)):=by intro e h' n' he hf;refine θ<|γ U<|γ U<|ε (aj ⟨_,rfl,by rw[hf];exact hQ _ _ he⟩)
 by_cases h1:ts.length=0
 ·refine aD U (by simp[h1]) ?_;exact ae (ret 10 _ _ e1 (by simp[dN,h1])) ⟨by show some (V.i _ _)=_;simp[h1],trivial⟩
 by_cases h2:2000<ts.length
 ·refine aD U (by simp[h1]<;>omega) ?_;refine ae (ret 5 _ _ e1 (by simp[dN,h1,h2])) ⟨?_,trivial⟩;show some (V.i _ _)=_;rw[ai (by simp[h1]),az (by simp<;>omega)]
 refine aE U ?_<|ao ?_
 ·rw[ai (by simp[h1]),ai (by simp<;>omega)];rfl
 refine θ<|γ U<|al U U<|WU hC (ht.ext e1) (by omega) hb.qg <| λvf h7 n2 e2 hF=>γ U<|ε ?_;have mI:=e1.trans e2;refine ν<|θ<|γ U<|ε ?_;refine aK<|ae (ahP (h0:=h7) (n0:=n2) hC hb (ht.ext mI) hF ?_ ?_ ts.length 0 h7 n2 rfl (by omega) U (λj hj=>by omega) (Ext.refl _ _)) ⟨rfl,rfl,rfl,trivial⟩
 ·intro E' h' n' e g1 g2 g3 g4;refine⟨.i .i64 e,by show oK [.t k2] _ _=_;simp only[oK,sW,wa,g4],?_⟩;have:=hQ h' n' (mI.trans g3);rw[dN,ai h1,ai h2,az (by rw[←g1];exact g2),←g1]at this;exact this
 ·intro g1 ho E' h3 n3 g3 s3;refine dB s3 ?_;have kL:=mI.trans g3;have JI:=ht.ext kL;obtain⟨cs3,hs3⟩:=JI.sl;have hF3:=hF.ext g3;have lA:ts.length - 1<ts.length:=by omega
  have oz:ts.length - 1<(fl ts ts.length).length:=by rw[mZ];exact lA
  have gF:=hF3.get oz 1;have vG:(fl ts ts.length)[ts.length - 1]=fs ts (ts.length - 1):=by rw[←jt oz];exact IA ts lA
  rw[vG]at gF;obtain⟨vv,kv,hx⟩:=JI.node lA;have EZ:=hx.op 1;rw[←EO lA]at EZ;have WV:∀(k:K),n3.num<=k.num->cD (hp h3 k none) false 1 (.p t.blk (t.off+(ts.length - 1)*5+0))=some (.i .i64 (tJ ts (ts.length - 1))):=by intro k hk;obtain⟨vv,kv,hx⟩:=(JI.ext ((Ext.refl h3 n3).aA (lI _ k none) hk)).node lA;have:=hx.op 1;rw[←EO lA]at this;exact this
  have gd:∀{vd:V} {h':Hf} {n':K},gh h' n' .i64 vd (dl ts ts.length)->cD h' false 1 (.p vd.blk (vd.off+(ts.length - 1)*1))=some (.i .i64 (EP ts)):=by
   intro vd h' n' hd;have hl3:ts.length - 1<(dl ts ts.length).length:=by rw[rU];exact lA
   have:=hd.get hl3 1;rw[←ID hl3]at this;exact this
  have M6:ts.length - 1<(dl ts ts.length).length:=by rw[rU];exact lA
  refine θ<|γ U<|aG U hs3<|kQ U U (show(ts.length:Int) - 1=((ts.length - 1:Nat):Int) by omega) ⟨by omega,by omega⟩<|γ U<|ε ?_;refine eS<|aL U<|aL U<|et U U hF3 oz<|bc U gF U (by simp[dH,iC,dD,jW])<|Eh U U<|cJ U U<|pe hC<|aL U<|aL U<|et U U hs3 lA<|dG U<|bc U EZ U (by simp[dH,iC,dD,jW])<|Ad U U<|cJ U U<|pe hC<|aL U<|cJ U U<|ahC hC JI (by omega) hb.qg ho <| λvd h4 n4 e4 hd=>aL U<|et U U hd M6<|bc U (gd hd) U (by simp[dH,iC,dD,jW])<|wA U U<|cJ U U<|pe hC<|uW U <| λh5 n5 qK a5 e5=>cJ U U<|CW hC.f48 (l:=[if (!decide (((fs ts (ts.length - 1):Nat):Int)=0)) then 9 else 0,if decide (tJ ts (ts.length - 1)=19) then 11 else 0,if decide (60<EP ts) then 24 else 0]) (ρ.whole (len:=3) (by omega) a5 rfl) (by simp)<|aL U<|dQ (⟨⟨ak (by simp[Nat.testBit]),ak (by simp[Nat.testBit]),ak (by simp[Nat.testBit]),ak (by simp[Nat.testBit]),ak (by simp[Nat.testBit]),trivial⟩,⟨ak (by simp[Nat.testBit]),ak (by simp[Nat.testBit]),ak (by simp[Nat.testBit]),ak (by simp[Nat.testBit]),dJ (WV n4 e4.1) (WV n4 e4.1),trivial⟩,⟨ak (by simp[Nat.testBit]),ak (by simp[Nat.testBit]),ak (by simp[Nat.testBit]),ak (by simp[Nat.testBit]),ak (by simp[Nat.testBit]),trivial⟩,trivial⟩) ?_
  have hl:AK ts=eD [if (!decide (((fs ts (ts.length - 1):Nat):Int)=0)) then 9 else 0,if decide (tJ ts (ts.length - 1)=19) then 11 else 0,if decide (60<EP ts) then 24 else 0]:=by unfold AK;simp only[bT];congr 1;simp
  rw[←hl];refine aj ⟨_,rfl,?_⟩;have:=hQ h5 n5 ((kL.trans e4).trans e5);rw[dN,ai h1,ai h2,ai (by simp[g1])]at this;exact this
end
section
variable {C:Nat->Option bP}{h:Hf}{n:K}{Q:V->Hf->K->Prop}
theorem w68(hC:Cd C){t:V}{ts:List Nd}{m:List (V×V)}(ht:lM h n t ts m)(hlen:ts.length<1000000)(h0:0<ts.length)
 (hQ:∀h' n' vv kv,Ext h n h' n'->m[ts.length - 1]?=some (vv,kv)->fC h n vv (ts[ts.length - 1]'(by omega)).vars->gh h n .i64 kv (ts[ts.length - 1]'(by omega)).kids->Q (.a (dT (ts[ts.length - 1]'(by omega)) vv kv)) h' n'):τ C (.f 68 [] []) [t] h n Q:=by
 refine τ.go hC.f68 U ?_;have lA:ts.length - 1<ts.length:=by omega
 have hm:=ht.choose;obtain⟨_,hs,hr⟩:=ht;have iS:=wo hm lA;have hb:=(hr _ lA).1;have hk:=(hr _ lA).2;refine θ<|ea <| λh1 n1 dZ a1 e1=>ε ?_;have kh:=hs.ext e1;have hg:=kh.nO (i:=(ts.length - 1)*5) (sz:=5) (by omega) (by omega);rw[iS]at hg;have eF:=kU ts[ts.length - 1] (ρ.one hb) (ρ.one hk);refine θ<|γ U<|γ U<|aG U kh<|kQ U U (show(ts.length:Int) - 1=((ts.length - 1:Nat):Int) by omega) ⟨by omega,by omega⟩<|bh U U kh lA<|χ U hg<|ct U U a1 (ff rfl rfl eF) <| λh2 a2 b2=>ε ?_;refine aj ⟨_,kP rfl (cz a2 (oM rfl)),?_⟩;exact hQ h2 n1 _ _ (e1.aA b2 (Γ _)) (by rw[gP]) hb hk
theorem E0{a b c d e v:V}(hc:v.cells=[v])(ho:v.one=true):mG [a,b,c,d,e] 0 (0+3) 1 v=some [a,b,c,v,e]:=by simp only[mG,hc,bN,ho,fG,pG,eW,over];rfl
theorem AL{a b c d e v:V}(hc:v.cells=[v])(ho:v.one=true):mG [a,b,c,d,e] 0 (0+4) 1 v=some [a,b,c,d,v]:=by simp only[mG,hc,bN,ho,fG,pG,eW,over];rfl
theorem Cr{cs:List V}(hl:cs.length=5)(ho:bN cs=true){E:Env}{k:K}(h1:lk E k=some (.a cs)):
 iQ E [.i .i64 0,.s 0 0,.s 0 0,.ns,.ns] [(0,5,.t k)]=some cs:=by
 match cs,hl with
 | [a,b,c,d,e],_=>
  simp only[iQ,ge,h1,V.cells,fG,pG,ho,eW,over];rfl
def dw(P:Nd->V×V->Prop):List Nd->List (V×V)->Prop
 | [],[]=>True
 | x::ts,p::m=>P x p/\dw P ts m
 | _,_=>False
theorem dw.len{P:Nd->V×V->Prop}:∀{ts:List Nd} {m:List (V×V)},dw P ts m->m.length=ts.length:=by
 intro ts
 induction ts with
 | nil=>intro m h;cases m with | nil=>rfl | cons=>exact h.elim
 | cons x ts ih=>intro m h;cases m with | nil=>exact h.elim | cons p m=>simp[ih h.2]
theorem dw.mono{P P':Nd->V×V->Prop}(f:∀x p,P x p->P' x p):∀{ts:List Nd} {m:List (V×V)},dw P ts m->dw P' ts m:=by
 intro ts
 induction ts with
 | nil=>intro m h;cases m with | nil=>trivial | cons=>exact h.elim
 | cons x ts ih=>intro m h;cases m with | nil=>exact h.elim | cons p m=>exact⟨f _ _ h.1,ih h.2⟩
theorem dw.app{P:Nd->V×V->Prop}:∀{ts OZ:List Nd} {m m':List (V×V)},dw P ts m->dw P OZ m'->dw P (ts++OZ) (m++m'):=by
 intro ts
 induction ts with
 | nil=>intro OZ m m' h h';cases m with | nil=>exact h' | cons=>exact h.elim
 | cons x ts ih=>intro OZ m m' h h';cases m with | nil=>exact h.elim | cons p m=>exact⟨h.1,ih h.2 h'⟩
theorem dw.get{P:Nd->V×V->Prop}:∀{ts:List Nd} {m:List (V×V)},dw P ts m->∀i (hi:i<ts.length) (hj:i<m.length),P ts[i] m[i]:=by
 intro ts
 induction ts with
 | nil=>intro m h i hi;simp at hi
 | cons x ts ih=>
  intro m h i hi hj;cases m with
  | nil=>exact h.elim
  | cons p m=>
   cases i with
   | zero=>exact h.1
   | succ i=>exact ih h.2 i (by simpa using hi) (by simpa using hj)
def dh(a b:V):Prop:=a=.ns\/b=.ns\/a.blk.num≠b.blk.num
theorem dh.of{a b:V}{n:K}(h1:a=.ns\/a.blk.num<n.num)(h2:b=.ns\/n.num<=b.blk.num):dh a b:=by
 rcases h1 with h1 | h1
 ·exact Or.inl h1
 ·rcases h2 with h2 | h2
  ·exact Or.inr (Or.inl h2)
  ·exact Or.inr (Or.inr (by omega))
theorem dh.symm{a b:V}(h:dh a b):dh b a:=by
 rcases h with h | h | h
 ·exact Or.inr (Or.inl h)
 ·exact Or.inl h
 ·exact Or.inr (Or.inr (Ne.symm h))
theorem ρ.gq{h h':Hf}{n n':K}{z:Nat}{v:V}{len:Nat}{cs:List V}(a:ρ h n z v len cs)(e:v=.ns\/h' v.blk=h v.blk)(hn:n.num<=n'.num):ρ h' n' z v len cs:=by
 obtain⟨h1,h2⟩:=a;refine⟨h1,h2.imp id λ⟨⟨b,o,c,h3,h4⟩,row,h5,h6⟩=>⟨⟨b,o,c,h3,fN h4 hn⟩,row,?_,h6⟩⟩;rcases e with e | e
 ·subst e;cases h3 with | inl e=>cases e.1 | inr e=>cases e
 ·unfold ja at h5 ⊢;rw[e];exact h5
structure RO(h:Hf)(lo n:K)(v:V)(x:Nd)(p:V×V):Prop where
 b:fC h n p.1 x.vars
 k:gh h n .i64 p.2 x.kids
 ko:x.kids=[]\/(p.2=.su p.2.blk 0 x.kids.length 1/\h p.2.blk=some (.c (eI .i64 x.kids) 3 0))
 kr:p.2=.ns\/lo.num<=p.2.blk.num
 vr:p.1=.ns\/lo.num<=p.1.blk.num
 vk:dh p.1 p.2
 vt:dh p.1 v
 kt:dh p.2 v
structure TO(h:Hf)(lo n:K)(v:V)(ts:List Nd)(m:List (V×V)):Prop where
 sl:ρ h n 5 v ts.length (dc ts m)
 rows:dw (RO h lo n v) ts m
 pw:m.Pairwise λp q=>dh p.2 q.2/\dh p.1 q.2/\dh p.2 q.1
 ge:v=.ns\/lo.num<=v.blk.num
theorem TO.tm{h:Hf}{lo n:K}{v:V}{ts:List Nd}{m:List (V×V)}(a:TO h lo n v ts m):lM h n v ts m:=
 ⟨a.rows.len,a.sl,λi hi=>⟨(a.rows.get i hi (by rw[a.rows.len];exact hi)).b,(a.rows.get i hi (by rw[a.rows.len];exact hi)).k⟩⟩
theorem RO.step{h h':Hf}{lo n n':K}{v v':V}{x:Nd}{p:V×V}(a:RO h lo n v x p)(hs:∀b:K,b.num<n.num->(v=.ns\/b.num≠v.blk.num)->h' b=h b)(hn:n.num<=n'.num)(oh:n.num<=v'.blk.num):RO h' lo n' v' x p:=by
 have lt1:=ρ.eG a.b;have lt2:=ρ.eG a.k;have e1:p.1=.ns\/h' p.1.blk=h p.1.blk:=by
  rcases lt1 with l | l
  ·exact Or.inl l
  ·rcases a.vt with g | g | g
   ·exact Or.inl g
   ·exact Or.inr (hs _ l (Or.inl g))
   ·exact Or.inr (hs _ l (Or.inr g))
 have e2:p.2=.ns\/h' p.2.blk=h p.2.blk:=by
  rcases lt2 with l | l
  ·exact Or.inl l
  ·rcases a.kt with g | g | g
   ·exact Or.inl g
   ·exact Or.inr (hs _ l (Or.inl g))
   ·exact Or.inr (hs _ l (Or.inr g))
 refine⟨ρ.gq a.b e1 hn,ρ.gq a.k e2 hn,?_,a.kr,a.vr,a.vk,dh.of lt1 (Or.inr oh),dh.of lt2 (Or.inr oh)⟩;rcases a.ko with g | g
 ·exact Or.inl g
 ·rcases e2 with e | e
  ·have:=g.1;rw[e]at this;cases this
  ·exact Or.inr ⟨g.1,by rw[e];exact g.2⟩
theorem gp.nil{h:Hf}{e z len:Nat}{v:V}{cs:List V}(a:gp h e z v len cs)(g:v=.ns):len=0:=by
 rcases a.2 with h | ⟨_,b,h1,h2⟩
 ·exact h.2
 ·rw[g]at h1;cases h1
theorem gp.su{h:Hf}{e z len:Nat}{v:V}{cs:List V}(a:gp h e z v len cs):v=.ns\/(v=.su v.blk 0 len z/\h v.blk=some (.c cs e 0)):=by
 rcases a.2 with h | ⟨_,b,h1,h2⟩
 ·exact Or.inl h.1
 ·subst h1;exact Or.inr ⟨rfl,h2⟩
section
variable {h0:Hf}{n0:K}{t:V}{ts:List Nd}
theorem ahV(hC:Cd C)(ht:db h0 n0 t ts)(hb:Bd ts){Q1:Ex->Env->Hf->K->Prop}
 (hQ:∀vo m h n E',Ext h0 n0 h n->TO h n0 n vo ts m->da [(k3,vo)] E'->Q1 .normal E' h n):
 ∀(r i:Nat) (vo:V) (m:List (V×V)) (h:Hf) (n:K),ts.length - i=r->i<=ts.length->TO h n0 n vo (ts.take i) m->Gr h0 n0 h n 87 5 vo i (dc (ts.take i) m)->WC C Ug [(k0,t),(k3,vo),(k4,.i .i64 (i:Nat))] h n (blk 0 Q1):=by
 have hlen:=hb.len;intro r
 induction r with
 | zero=>
  intro i vo m h n hr hi eE hg;have:i=ts.length:=by omega
  subst this;obtain⟨cs,hs⟩:=(ht.ext hg.ext).sl;rw[fO]at eE;refine aQ ?_;refine ν<|θ<|γ U<|γ U<|aG U hs<|aP U U<|ε ?_;exact aE U (by simp)<|bW (hQ vo m h n _ hg.ext eE ⟨rfl,trivial⟩)
 | succ r ih=>
  intro i vo m h n hr hi eE hg;have ψ:i<ts.length:=by omega
  have vH:=ht.ext hg.ext;obtain⟨cs,hs⟩:=vH.sl;obtain⟨vv,kv,hx⟩:=vH.node ψ;have eF:=kU ts[i] (ρ.one hx.vars) (ρ.one hx.kids);have eU:=hb.qg i ψ;have ug:=hb.vl i ψ;refine aQ ?_;refine ν<|θ<|γ U<|γ U<|aG U hs<|aP U U<|ε ?_;refine aD U (by simp<;>omega)<|ao ?_;refine ν<|aK<|θ<|γ U<|γ U<|bh U U hs ψ<|χ U hx.all<|ea <| λh1 n1 dZ a1 e1=>ct U U a1 (ff rfl rfl eF) <| λh2 a2 b2=>ε ?_;have x2:Ext h n h2 n1:=e1.aA b2 (Γ _);have iG:=hx.vars.ext x2;refine θ<|Ω U<|χ U (dV a2 rfl _)<|BX U U iG (by omega) (by omega) (by omega) <| λv3 h3 n3 o3 x3 p3=>Ω U<|ct U U ((x3.2 _ (by omega)).trans a2) (E0 o3.cells o3.one) <| λh4 a4 b4=>ε ?_;have rk:df n h3 h4:=b4;have x4:Ext h n h4 n3:=(x2.trans x3).aA rk (Γ _);have hk4:=hx.kids.ext x4;have lz:=x3.1;refine θ<|Ω U<|χ U (dV a4 rfl _)<|BX U U hk4 (by omega) (by omega) (by omega) <| λv5 h5 n5 o5 x5 p5=>Ω U<|ct U U ((x5.2 _ (by omega)).trans a4) (AL o5.cells o5.one) <| λh6 a6 b6=>ε ?_;have oB:df n h5 h6:=b6;have x6:Ext h n h6 n5:=(x4.trans x5).aA oB (Γ _);have qK:=x5.1;have Ga:h6 n=some (.c (dT ts[i] v3 v5) 87 0):=a6;have Y4:gp h6 64 2 v3 ts[i].vars.length (px ts[i].vars):=(((o3.ext (p3.imp id λh=>rk _ (by omega))).ext (p3.imp id λh=>x5.2 _ (by omega))).ext (p3.imp id λh=>oB _ (by omega)));have Gh:gp h6 3 1 v5 ts[i].kids.length (eI .i64 ts[i].kids):=o5.ext (p5.imp id λh=>oB _ (by omega));have E8:=kU ts[i] o3.one o5.one;have g6:=hg.on x6;refine aR<|γ U<|χ U (cz Ga (oM rfl))<|fx (Cr rfl E8 rfl) <| λh7 n7 wQ a7 x7=>jK U ((g6.on x7).own) U (ρ.whole (len:=1) (by omega) a7 rfl) (by omega) (by omega) (by omega) (by omega) E8 ((g6.on x7).lt) <| λv8 h8 n8 o8 q8 mJ s8=>γ U<|ε ?_;have g8:=(g6.on x7).app o8 q8 mJ s8;have Y5:Ext h n h7 n7:=x6.trans x7;have DT:m.length=i:=by rw[eE.rows.len];simp;omega
  have Gi:ts.take (i+1)=ts.take i++[ts[i]]:=iy ψ;have M9:dc (ts.take i) m++dT ts[i] v3 v5=dc (ts.take (i+1)) (m++[(v3,v5)]):=by rw[Gi,xX (by rw[DT];simp;omega)];rfl
  rw[M9]at g8;have wQ:=x7.1;have ahW:=hg.ext.1;have ahX:n.num<n1.num:=by omega
  have KO:∀b:K,b.num<n.num->(vo=.ns\/b.num≠vo.blk.num)->h8 b=h b:=λb hb hv=>by rw[s8 b (by omega) hv,Y5.2 b hb]
  have l3:v3=.ns\/v3.blk.num<n3.num:=p3.imp id And.right;have l5:v5=.ns\/v5.blk.num<n5.num:=p5.imp id And.right;have Na:v3=.ns\/(vo=.ns\/v3.blk.num≠vo.blk.num):=p3.imp id λh=>hg.lt.imp id λg=>by omega
  have Nb:v5=.ns\/(vo=.ns\/v5.blk.num≠vo.blk.num):=p5.imp id λh=>hg.lt.imp id λg=>by omega
  have f3:v3=.ns\/h8 v3.blk=h6 v3.blk:=by
   rcases l3 with l | l
   ·exact Or.inl l
   ·rcases Na with g | g
    ·exact Or.inl g
    ·exact Or.inr (by rw[s8 _ (by omega) g,x7.2 _ (by omega)])
  have f5:v5=.ns\/h8 v5.blk=h6 v5.blk:=by
   rcases l5 with l | l
   ·exact Or.inl l
   ·rcases Nb with g | g
    ·exact Or.inl g
    ·exact Or.inr (by rw[s8 _ (by omega) g,x7.2 _ (by omega)])
  have Nc:v5=.ns\/n0.num<=v5.blk.num:=p5.imp id λh=>by omega
  have Nf:v3=.ns\/n0.num<=v3.blk.num:=p3.imp id λh=>by omega
  have k8:v8=.ns\/n5.num<=v8.blk.num:=Or.inr (by rw[q8];omega);have Ng:v3=.ns\/v3.blk.num<n5.num:=l3.imp id λh=>by omega
  have g5:v5=.ns\/n.num<=v5.blk.num:=p5.imp id λh=>by omega
  have g3:v3=.ns\/n.num<=v3.blk.num:=p3.imp id λh=>by omega
  have ro:RO h8 n0 n8 v8 ts[i] (v3,v5):=by
   refine⟨ρ.gq (Y4.sl (n:=n5) Ng) f3 (by omega),ρ.gq (Gh.sl (n:=n5) l5) f5 (by omega),?_,Nc,Nf,dh.of l3 (p5.imp id And.left),dh.of Ng k8,dh.of l5 k8⟩;rcases Gh.su with g | g
   ·exact Or.inl (nM.1 (Gh.nil g))
   ·rcases f5 with f | f
    ·have:=g.1;rw[f]at this;cases this
    ·exact Or.inr ⟨g.1,by rw[f];exact g.2⟩
  refine aR<|γ U<|cK U U ⟨by omega,by omega⟩<|γ U<|ε ?_;refine ae (ih (i+1) v8 (m++[(v3,v5)]) h8 n8 (by omega) (by omega) ⟨?_,?_,?_,Or.inr (by rw[q8];omega)⟩ g8) ⟨rfl,rfl,rfl,trivial⟩
  ·have:=g8.sl;have el:(ts.take (i+1)).length=i+1:=by simp;omega
   rw[el];exact this
  ·rw[Gi];exact dw.app (dw.mono (λx p a=>a.step KO (by omega) (by rw[q8];omega)) eE.rows) ⟨ro,trivial⟩
  ·rw[List.pairwise_append];refine⟨eE.pw,List.pairwise_singleton _ _,?_⟩;intro p hp q hq;rw[mN]at hq;subst hq;obtain⟨j,hj,rfl⟩:=lB hp;have hr:=eE.rows.get j (by rw[←eE.rows.len];exact hj) hj;have b1:=ρ.eG hr.b;have b2:=ρ.eG hr.k;exact⟨dh.of b2 g5,dh.of b1 g5,dh.of b2 g3⟩
end
theorem ahY(hC:Cd C){t:V}{ts:List Nd}(ht:db h n t ts)(hb:Bd ts)(hQ:∀vo m h' n',Ext h n h' n'->TO h' n n' vo ts m->Q vo h' n'):τ C (.f 131 [] []) [t] h n Q:=by refine τ.go hC.f131 U ?_;refine θ<|γ U<|ε ?_;refine θ<|γ U<|ε ?_;refine ν<|θ<|γ U<|ε ?_;refine aK<|ae (ahV hC ht hb ?_ _ 0 .ns [] h n rfl (by omega) ⟨by simp;exact ρ.ns h n 5,trivial,List.Pairwise.nil,Or.inl U⟩ (by simpa[dc]using Gr.ns (Ext.refl h n))) ⟨rfl,rfl,rfl,trivial⟩;intro vo m h1 n1 E1 e1 AM s1;refine dB s1 ?_;refine θ<|γ U<|γ U<|ε (aj ⟨_,rfl,hQ vo m h1 n1 e1 AM⟩)
end
section
variable {C:Nat->Option bP}{h:Hf}{n:K}{Q:V->Hf->K->Prop}
theorem ahZ:∀(l:List Nd) (m:List (V×V)),m.length=l.length->∀i,(dc l m).drop (i*5)=dc (l.drop i) (m.drop i):=by
 intro l
 induction l with
 | nil=>intro m hm i;cases m with | nil=>simp[dc] | cons=>simp at hm
 | cons x l ih=>
  intro m hm i;cases m with
  | nil=>simp at hm
  | cons p m=>
   cases i with
   | zero=>simp
   | succ i=>
    rw[Dn,Dn,←ih m (by simpa using hm) i];rw[vP,qs,←List.drop_drop];rfl
theorem Nh:∀(l:List Nd) (m:List (V×V)),m.length=l.length->∀i,(dc l m).take (i*5)=dc (l.take i) (m.take i):=by
 intro l
 induction l with
 | nil=>intro m hm i;cases m with | nil=>simp[dc] | cons=>simp at hm
 | cons x l ih=>
  intro m hm i;cases m with
  | nil=>simp at hm
  | cons p m=>
   cases i with
   | zero=>simp[dc]
   | succ i=>
    rw[sG,sG];show(dT x p.1 p.2++dc l m).take ((i+1)*5)=dT x p.1 p.2++dc (l.take i) (m.take i);have e1:(dT x p.1 p.2).length=5:=rfl;rw[←ih m (by simpa using hm) i,vP,qs,List.take_append,e1,show 5+i*5 - 5=i*5 by omega,pF (by rw[e1];omega)]
theorem lM.sub{v v':V}{ts:List Nd}{m:List (V×V)}(a:lM h n v ts m){i j:Nat}(ua:i+j<=ts.length)(s:ρ h n 5 v' j (((dc ts m).drop (i*5)).take (j*5))):lM h n v' ((ts.drop i).take j) ((m.drop i).take j):=by
 obtain⟨hm,h1,h2⟩:=a;have hl:((ts.drop i).take j).length=j:=by simp;omega
 rw[ahZ _ _ hm,Nh _ _ (by simp[hm])]at s;refine⟨by simp[hm],by rw[hl];exact s,λk hk=>?_⟩;rw[hl]at hk;have e1:((ts.drop i).take j)[k]'(by rw[hl];exact hk)=ts[i+k]'(by omega):=by simp
 have e2:((m.drop i).take j)[k]'(by simp[hm];omega)=m[i+k]'(by omega):=by simp
 simp only[e1,e2];exact h2 (i+k) (by omega)
theorem db.sub{v v':V}{ts:List Nd}{cs:List V}(a:db h n v ts){i j:Nat}(ua:i+j<=ts.length)(hc:ρ h n 5 v ts.length cs)(s:ρ h n 5 v' j ((cs.drop (i*5)).take (j*5))):db h n v' ((ts.drop i).take j):=by
 obtain⟨m,hm⟩:=a;have:cs=dc ts m:=by
  obtain⟨_,h1,_⟩:=hm;obtain⟨g1,g2⟩:=hc;obtain⟨k1,k2⟩:=h1;rcases g2 with g | ⟨_,row,r1,r2⟩
  ·have e1:cs=[]:=by rw[g.2]at g1;simpa using g1
   have e2:dc ts m=[]:=by rw[g.2]at k1;simpa using k1
   rw[e1,e2]
  ·rcases k2 with k | ⟨_,aqf,r3,r4⟩
   ·have e1:cs=[]:=by rw[k.2]at g1;simpa using g1
    have e2:dc ts m=[]:=by rw[k.2]at k1;simpa using k1
    rw[e1,e2]
   ·rw[r1]at r3;cases r3;rw[r2]at r4;cases r4;rfl
 subst this;exact⟨_,lM.sub hm ua s⟩
def Y6(f:Nat)(x:Nd):Nd:=⟨x.op,x.sort,x.name,x.vars,x.kids.map λk=>k - f⟩
def part(ts:List Nd)(i:Nat):List Nd:=((ts.drop (fs ts i)).take (i+1 - fs ts i)).map (Y6 (fs ts i))
theorem dw.of{P:Nd->V×V->Prop}:∀{ts:List Nd} {m:List (V×V)},m.length=ts.length->(∀i (hi:i<ts.length) (hj:i<m.length),P ts[i] m[i])->dw P ts m:=by
 intro ts
 induction ts with
 | nil=>intro m hm _;cases m with | nil=>trivial | cons=>simp at hm
 | cons x ts ih=>
  intro m hm h;cases m with
  | nil=>simp at hm
  | cons p m=>
   refine⟨h 0 (by simp) (by simp),ih (by simpa using hm) λi hi hj=>?_⟩;have:=h (i+1) (by simpa using hi) (by simpa using hj);simpa using this
theorem ah0{x:Nd}:∀(l:List Nd) (m:List (V×V)) (i:Nat) (hi:i<l.length),x.op=l[i].op->x.sort=l[i].sort->x.name=l[i].name->dc (l.set i x) m=dc l m:=by
 intro l
 induction l with
 | nil=>intro m i hi;simp at hi
 | cons y l ih=>
  intro m i hi h1 h2 h3;cases m with
  | nil=>cases i<;>rfl
  | cons p m=>
   cases i with
   | zero=>
    simp only[sH]at h1 h2 h3;simp only[List.set_cons_zero];show dT x p.1 p.2++dc l m=dT y p.1 p.2++dc l m;simp only[dT,h1,h2,h3]
   | succ i=>
    simp only[xC];show dT y p.1 p.2++dc (l.set i x) m=dT y p.1 p.2++dc l m;rw[ih m i (by simpa using hi) (by simpa using h1) (by simpa using h2) (by simpa using h3)]
theorem RO.aA{h h':Hf}{lo n:K}{v:V}{x:Nd}{p:V×V}(a:RO h lo n v x p){b:K}(e:df b h h')(h1:p.1=.ns\/p.1.blk.num≠b.num)(h2:p.2=.ns\/p.2.blk.num≠b.num):RO h' lo n v x p:=by
 refine⟨ρ.aA a.b e h1,ρ.aA a.k e h2,?_,a.kr,a.vr,a.vk,a.vt,a.kt⟩;rcases a.ko with g | g
 ·exact Or.inl g
 ·rcases h2 with k | k
  ·have:=g.1;rw[k]at this;cases this
  ·exact Or.inr ⟨g.1,by rw[e _ k];exact g.2⟩
def wk(x:Nd)(l:List Int):Nd:=⟨x.op,x.sort,x.name,x.vars,l⟩
theorem TO.Ni{h h':Hf}{lo n:K}{v:V}{ts:List Nd}{m:List (V×V)}(a:TO h lo n v ts m){i k:Nat}{y:Int}(hi:i<ts.length)(hj:i<m.length)(hk:k<ts[i].kids.length)
 (e:df m[i].2.blk h h')(hs:h' m[i].2.blk=some (.c (eI .i64 (ts[i].kids.set k y)) 3 0)):TO h' lo n v (ts.set i (wk ts[i] (ts[i].kids.set k y))) m:=by
 have hr:=a.rows.get i hi hj;have bC:m[i].2≠.ns:=by
  intro h;have:=hr.k;rw[h]at this;rcases this.2 with g | ⟨⟨b,o,c,g,_⟩,_⟩
  ·have:=g.2;omega
  ·rcases g with g | g
   ·cases g.1
   ·cases g
 have bl:m[i].2.blk.num<n.num:=by
  rcases ρ.eG hr.k with g | g
  ·exact absurd g bC
  ·exact g
 have nv:v=.ns\/v.blk.num≠m[i].2.blk.num:=by
  rcases hr.kt with g | g | g
  ·exact absurd g bC
  ·exact Or.inl g
  ·exact Or.inr (Ne.symm g)
 refine⟨?_,?_,a.pw,a.ge⟩
 ·rw[mL,ah0 (x:=wk ts[i] (ts[i].kids.set k y)) _ _ _ hi rfl rfl rfl];exact ρ.aA a.sl e nv
 ·refine dw.of (by rw[mL];exact a.rows.len) λj Ox qA=>?_;rw[mL]at Ox;by_cases ua:i=j
  ·subst ua;simp only[Bt];have jH:m[i].2=.su m[i].2.blk 0 ts[i].kids.length 1:=by
    rcases hr.ko with g | g
    ·simp[g]at hk
    ·exact g.1
   refine⟨ρ.aA hr.b e ?_,?_,Or.inr ⟨by show _=V.su _ 0 (ts[i].kids.set k y).length 1;rw[mL];exact jH,hs⟩,hr.kr,hr.vr,hr.vk,hr.vt,hr.kt⟩
   ·rcases hr.vk with g | g | g
    ·exact Or.inl g
    ·exact absurd g bC
    ·exact Or.inr g
   ·unfold gh;refine⟨by simp[Ee,wk],Or.inr ⟨⟨m[i].2.blk,0,0,Or.inr (by show _=V.su _ 0 (ts[i].kids.set k y).length 1;rw[mL];exact jH),bl⟩,eI .i64 (ts[i].kids.set k y),by simp[ja,hs,O.row],?_⟩⟩;rw[jH];exact oM (by simp[Ee,wk])
  ·rw[Bo ua];have po:=a.rows.get j Ox qA;have pw:=List.pairwise_iff_getElem.1 a.pw;have n2:dh m[j].2 m[i].2/\dh m[j].1 m[i].2:=by
    rcases jR i j with g | g
    ·have:=pw i j hj qA g;exact⟨this.1.symm,this.2.2.symm⟩
    ·have:=pw j i qA hj (by omega);exact⟨this.1,this.2.1⟩
   refine po.aA e ?_ ?_
   ·rcases n2.2 with g | g | g
    ·exact Or.inl g
    ·exact absurd g bC
    ·exact Or.inr g
   ·rcases n2.1 with g | g | g
    ·exact Or.inl g
    ·exact absurd g bC
    ·exact Or.inr g
end
section
variable {C:Nat->Option bP}{h:Hf}{n:K}{Q:V->Hf->K->Prop}
def jD(g:Int->Int)(x:Nd):Nd:=wk x (x.kids.map g)
def shl(g:Int->Int)(k:Nat)(l:List Int):List Int:=(l.take k).map g++l.drop k
theorem AN(g:Int->Int)(k:Nat)(l:List Int):(shl g k l).length=l.length:=by simp[shl];omega
theorem Nj{g:Int->Int}{k:Nat}{l:List Int}(hk:k<l.length):(shl g k l)[k]'(by rw[AN];exact hk)=l[k]:=by unfold shl;rw[List.getElem_append_right (by simp;omega)];simp[xD (fZ hk)]
theorem ah1{g:Int->Int}{k:Nat}{l:List Int}(hk:k<l.length):(shl g k l).set k (g l[k])=shl g (k+1) l:=by unfold shl;rw[List.set_append_right _ _ (by simp;omega),iy hk,List.map_append,uF];congr 1;rw[lC,qn,xD (fZ hk),qp,gi hk,List.set_cons_zero];rfl
theorem Nk(g:Int->Int)(l:List Int):shl g 0 l=l:=by simp[shl]
theorem ah2(g:Int->Int)(l:List Int):shl g l.length l=l.map g:=by simp[shl]
structure nF(g:Int->Int)(t0 us:List Nd)(i k:Nat):Prop where
 len:us.length=t0.length
 lo:∀j (h1:j<us.length) (h2:j<t0.length),j<i->us[j]=jD g t0[j]
 at_:∀(h1:i<us.length) (h2:i<t0.length),us[i]=wk t0[i] (shl g k t0[i].kids)
 hi:∀j (h1:j<us.length) (h2:j<t0.length),i<j->us[j]=t0[j]
theorem nF.start(g:Int->Int)(t0:List Nd):nF g t0 t0 0 0:=⟨rfl,λj _ _ h=>by omega,λ_ _=>by rw[Nk];rfl,λ_ _ _ _=>rfl⟩
theorem nF.set{g:Int->Int}{t0 us:List Nd}{i k:Nat}(c:nF g t0 us i k)(h1:i<us.length)(h2:i<t0.length)(hk:k<t0[i].kids.length):nF g t0 (us.set i (wk us[i] (us[i].kids.set k (g t0[i].kids[k])))) i (k+1):=by
 refine⟨by rw[mL];exact c.len,λj g1 g2 h=>?_,λg1 g2=>?_,λj g1 g2 h=>?_⟩
 ·rw[mL]at g1;rw[Bo (by omega)];exact c.lo j g1 g2 h
 ·rw[Bt,c.at_ h1 h2];show wk _ ((shl g k t0[i].kids).set k _)=_;rw[ah1 hk];rfl
 ·rw[mL]at g1;rw[Bo (by omega)];exact c.hi j g1 g2 h
theorem nF.next{g:Int->Int}{t0 us:List Nd}{i:Nat}(c:nF g t0 us i (match t0[i]? with | some x=>x.kids.length | none=>0)):nF g t0 us (i+1) 0:=by
 refine⟨c.len,λj g1 g2 h=>?_,λg1 g2=>?_,λj g1 g2 h=>c.hi j g1 g2 (by omega)⟩
 ·by_cases hj:j<i
  ·exact c.lo j g1 g2 hj
  ·have:j=i:=by omega
   subst this;rw[c.at_ g1 g2,gP g2];show wk _ (shl g t0[j].kids.length t0[j].kids)=_;rw[ah2];rfl
 ·rw[c.hi (i+1) g1 g2 (by omega),Nk];rfl
theorem nF.done{g:Int->Int}{t0 us:List Nd}{k:Nat}(c:nF g t0 us t0.length k):us=t0.map (jD g):=by
 refine Dk (by simp[c.len]) λj h1 h2=>?_;have:j<t0.length:=by simpa using h2
 rw[c.lo j h1 this this];simp
section
variable {h0:Hf}{lo n0:K}{f:Nat}{t0:List Nd}{v:V}{m:List (V×V)}
theorem ah3(hlen:t0.length<100000)(hf:f<100000)(eU:∀i (hi:i<t0.length),t0[i].kids.length<1000000)(j7:∀i (hi:i<t0.length),∀k∈t0[i].kids,0<=k/\k<1000000){i:Nat}(hi:i<t0.length)(fV:n0.num<=lo.num){Q1:Ex->Env->Hf->K->Prop}
 (hQ:∀us h E',Ext h0 n0 h n->TO h lo n v us m->nF (λx=>x - (f:Int)) t0 us (i+1) 0->da [(k5,.i .i64 (f:Nat)),(k6,v),(k7,.i .i64 (i:Nat))] E'->Q1 .normal E' h n):
 ∀(r k:Nat) (us:List Nd) (h:Hf),t0[i].kids.length - k=r->k<=t0[i].kids.length->Ext h0 n0 h n->TO h lo n v us m->nF (λx=>x - (f:Int)) t0 us i k->WC C Ue [(k5,.i .i64 (f:Nat)),(k6,v),(k7,.i .i64 (i:Nat)),(k8,.i .i64 (k:Nat))] h n (blk 2 Q1):=by
 intro r
 induction r with
 | zero=>
  intro k us h hr hk he eE hc;have gD:k=t0[i].kids.length:=by omega
  subst gD;have iu:i<us.length:=by rw[hc.len];exact hi
  obtain⟨cs,hs⟩:=(show db h n v us from⟨m,eE.tm⟩).sl;obtain⟨vv,kv,hx⟩:=(show db h n v us from⟨m,eE.tm⟩).node iu;have hl:us[i].kids.length=t0[i].kids.length:=by rw[hc.at_ iu hi];exact AN _ _ _
  have FX:=hx.kids;refine aQ ?_;refine ν<|θ<|γ U<|γ U<|γ U<|bh U U hs iu<|Ω U<|χ U (hx.ks _)<|aG U FX<|aP U U<|ε ?_;refine aE U (by simp[hl])<|bW (hQ us h _ he eE (nF.next (by rw[gP hi];exact hc)) ⟨rfl,rfl,rfl,trivial⟩)
 | succ r ih=>
  intro k us h hr hk he eE hc;have ψ:k<t0[i].kids.length:=by omega
  have iu:i<us.length:=by rw[hc.len];exact hi
  have xl:i<m.length:=by rw[eE.rows.len];exact iu
  obtain⟨cs,hs⟩:=(show db h n v us from⟨m,eE.tm⟩).sl;have fo:=eE.rows.get i iu xl;have sY:=eE.sl;have hl:us[i].kids.length=t0[i].kids.length:=by rw[hc.at_ iu hi];exact AN _ _ _
  have kV:k<us[i].kids.length:=by omega
  have iS:cD h true 5 (.p v.blk (v.off+i*5))=some (.a (dT us[i] m[i].1 m[i].2)):=by have:=sY.nO (i:=i*5) (sz:=5) (by omega) (by omega);rw[wo eE.rows.len iu]at this;exact this
  have nw:cD h false 1 (.p v.blk (v.off+i*5+4))=some m[i].2:=tk iS rfl;have hg:=fo.k.get kV 1;have m6:us[i].kids[k]=t0[i].kids[k]:=by
   have e:=hc.at_ iu hi;have:us[i].kids=shl (λx=>x - (f:Int)) k t0[i].kids:=by rw[e];rfl
   simp only[this];exact Nj ψ
  rw[m6]at hg;have Nl:=j7 i hi t0[i].kids[k] (dU _);have wU:=eU i hi;have bC:m[i].2≠.ns:=by
   intro h;have:=fo.k;rw[h]at this;rcases this.2 with g | ⟨⟨b,o,c,g,_⟩,_⟩
   ·have:=g.2;omega
   ·rcases g with g | g
    ·cases g.1
    ·cases g
  have jH:m[i].2=.su m[i].2.blk 0 us[i].kids.length 1/\h m[i].2.blk=some (.c (eI .i64 us[i].kids) 3 0):=by
   rcases fo.ko with g | g
   ·simp[g]at kV
   ·exact g
  have Nm:n0.num<=m[i].2.blk.num:=by
   rcases fo.kr with g | g
   ·exact absurd g bC
   ·omega
  have E9:m[i].2.off=0:=by rw[jH.1];rfl
  refine aQ ?_;refine ν<|θ<|γ U<|γ U<|γ U<|bh U U hs iu<|Ω U<|χ U nw<|aG U fo.k<|aP U U<|ε ?_;refine aD U (by simp<;>omega)<|ao ?_;refine ν<|aK<|wj<|aL U<|aL U<|et U U hs iu<|dG U<|bc U nw (ρ.below fo.k (Γ _)) (ρ.dX fo.k)<|aL U<|aL U<|aL U<|et U U hs iu<|dG U<|bc U nw (ρ.below fo.k (Γ _)) (ρ.dX fo.k)<|aL U<|et U U fo.k kV<|bc U hg U (gS _ _)<|aL U<|BU U U ⟨by omega,by omega⟩<|et U U fo.k kV<|gH U U jH.2 (Ck (i:=k) kV _ (by rw[E9];omega)) <| λh1 a1 b1=>dQ (⟨⟨ak (by simp[Nat.testBit]),trivial⟩,⟨ak (by simp[Nat.testBit]),trivial⟩,⟨ak (by simp[Nat.testBit]),trivial⟩,trivial⟩) ?_;have Fa:df m[i].2.blk h h1:=b1;have Gj:h1 m[i].2.blk=some (.c (eI .i64 (us[i].kids.set k (t0[i].kids[k] - f))) 3 0):=a1;refine aR<|γ U<|cK U U ⟨by omega,by omega⟩<|γ U<|ε ?_;exact ae (ih (k+1) _ h1 (by omega) (by omega) (he.aA Fa Nm) (eE.Ni iu xl kV Fa Gj) (hc.set iu hi ψ)) ⟨rfl,rfl,rfl,rfl,trivial⟩
theorem ah4(hlen:t0.length<100000)(hf:f<100000)(eU:∀i (hi:i<t0.length),t0[i].kids.length<1000000)(j7:∀i (hi:i<t0.length),∀k∈t0[i].kids,0<=k/\k<1000000)(fV:n0.num<=lo.num){Q1:Ex->Env->Hf->K->Prop}
 (hQ:∀h E',Ext h0 n0 h n->TO h lo n v (t0.map (Y6 f)) m->da [(k6,v)] E'->Q1 .normal E' h n):
 ∀(r i:Nat) (us:List Nd) (h:Hf),t0.length - i=r->i<=t0.length->Ext h0 n0 h n->TO h lo n v us m->nF (λx=>x - (f:Int)) t0 us i 0->WC C Uf [(k5,.i .i64 (f:Nat)),(k6,v),(k7,.i .i64 (i:Nat))] h n (blk 0 Q1):=by
 intro r
 induction r with
 | zero=>
  intro i us h hr hi he eE hc;have:i=t0.length:=by omega
  subst this;obtain⟨cs,hs⟩:=(show db h n v us from⟨m,eE.tm⟩).sl;have iV:=hc.len;refine aQ ?_;refine ν<|θ<|γ U<|γ U<|aG U hs<|aP U U<|ε ?_;exact aE U (by simp[iV])<|bW (hQ h _ he (by have e:=hc.done;subst e;exact eE) ⟨rfl,trivial⟩)
 | succ r ih=>
  intro i us h hr hi he eE hc;obtain⟨cs,hs⟩:=(show db h n v us from⟨m,eE.tm⟩).sl;have iV:=hc.len;have ψ:i<t0.length:=by omega
  refine aQ ?_;refine ν<|θ<|γ U<|γ U<|aG U hs<|aP U U<|ε ?_;refine aD U (by simp<;>omega)<|ao ?_;refine ν<|aK<|θ<|γ U<|ε ?_;refine aK<|ae (ah3 hlen hf eU j7 ψ fV ?_ _ 0 us h rfl (by omega) he eE hc) ⟨rfl,rfl,rfl,rfl,trivial⟩;intro Y7 h1 E1 e1 AM c1 s1;refine dB s1 ?_;refine aR<|γ U<|cK U U ⟨by omega,by omega⟩<|γ U<|ε ?_;exact ae (ih (i+1) Y7 h1 (by omega) (by omega) e1 AM c1) ⟨rfl,rfl,rfl,trivial⟩
end
theorem Bd.sub{ts:List Nd}(hb:Bd ts)(i j:Nat):Bd ((ts.drop i).take j):=by
 have key:∀x∈(ts.drop i).take j,∃k,∃hk:k<ts.length,x=ts[k]:=by intro x hx;obtain⟨k,hk,rfl⟩:=lB (Bm (uE hx));exact⟨k,hk,rfl⟩
 refine⟨by have:=hb.len;simp;omega,λk hk=>?_,λk hk=>?_,λk hk=>?_,λk hk=>?_⟩
 all_goals (obtain⟨q,hq,e⟩:=key _ (dU hk);rw[e])
 ·exact hb.qg q hq
 ·exact hb.nm q hq
 ·exact hb.vl q hq
 ·exact hb.vn q hq
def TG(h:Hf)(lo n:K)(v:V)(ts:List Nd):Prop:=∃m,lM h n v ts m/\(v=.ns\/lo.num<=v.blk.num)/\∀p∈m,(p.1=.ns\/lo.num<=p.1.blk.num)/\(p.2=.ns\/lo.num<=p.2.blk.num)
theorem TO.tg{h:Hf}{lo n:K}{v:V}{ts:List Nd}{m:List (V×V)}(a:TO h lo n v ts m){wb:K}(hl:wb.num<=lo.num):TG h wb n v ts:=by refine⟨m,a.tm,a.ge.imp id λh=>by omega,λp hp=>?_⟩;obtain⟨j,hj,rfl⟩:=lB hp;have:=a.rows.get j (by rw[←a.rows.len];exact hj) hj;exact⟨this.vr.imp id λh=>by omega,this.kr.imp id λh=>by omega⟩
theorem TG.t{h:Hf}{lo n:K}{v:V}{ts:List Nd}(a:TG h lo n v ts):db h n v ts:=⟨a.choose,a.choose_spec.1⟩
theorem TG.skip{h h':Hf}{lo n n':K}{v:V}{ts:List Nd}(a:TG h lo n v ts)(hs:∀b:K,lo.num<=b.num->b.num<n.num->h' b=h b)(hn:n.num<=n'.num):TG h' lo n' v ts:=by
 obtain⟨m,⟨hm,h1,h2⟩,h3,h4⟩:=a;have key:∀{v:V} {z len:Nat} {cs:List V},ρ h n z v len cs->(v=.ns\/lo.num<=v.blk.num)->ρ h' n' z v len cs:=by
  intro v z len cs a hl;refine ρ.gq a ?_ hn;rcases hl with g | g
  ·exact Or.inl g
  ·rcases ρ.eG a with k | k
   ·exact Or.inl k
   ·exact Or.inr (hs _ g k)
 exact⟨m,⟨hm,key h1 h3,λi hi=>⟨key (h2 i hi).1 (h4 _ (dU _)).1,key (h2 i hi).2 (h4 _ (dU _)).2⟩⟩,h3,h4⟩
theorem w70(hC:Cd C){t:V}{ts:List Nd}{i:Nat}(ht:db h n t ts)(hb:Bd ts)(hi:i<ts.length)(ho:∀j,j<ts.length->ord ts j=true)
 (hQ:∀v' h' n',Ext h n h' n'->TG h' n n' v' (part ts i)->Q v' h' n'):τ C (.f 70 [] []) [t,.i .i64 (i:Nat)] h n Q:=by
 refine τ.go hC.f70 U ?_;have hlen:=hb.len;have vG:=Cg ts i;refine θ<|γ U<|ε ?_;have pa:i<(fl ts ts.length).length:=by rw[mZ];exact hi
 have my:(fl ts ts.length)[i]=fs ts i:=by rw[←jt pa];exact IA ts hi
 have hg:∀{v':V} {h':Hf} {n':K},bj h' n' .i64 v' (fl ts ts.length)->cD h' false 1 (.p v'.blk (v'.off+i*1))=some (.i .i64 (fs ts i:Nat)):=by intro v' h' n' a;have:=a.get pa 1;rw[my]at this;exact this
 refine θ<|γ U<|al U U<|WU hC ht (by omega) hb.qg <| λvf h1 n1 e1 iF=>γ U<|bh U U iF pa<|χ U (hg iF)<|γ U<|ε ?_;have za:=ht.ext e1;obtain⟨cs,hs⟩:=za.sl;generalize hf:fs ts i=f at*;refine θ<|γ U<|γ U<|γ U<|kp U U (show(i:Int)+1=((i+1:Nat):Int) from rfl) ⟨by omega,by omega⟩<|HX U hs U U ((show f<=i+1 by omega)) ((show i+1<=ts.length by omega)) <| λv2 i2 l2=>al U U<|ahY hC (db.sub za (by omega) hs i2) (hb.sub _ _) <| λvo m h3 n3 e3 C4=>γ U<|ε ?_;have hL:((ts.drop f).take (i+1 - f)).length=i+1 - f:=by simp;omega
 have jO:=hb.sub f (i+1 - f);have j7:∀q (hq:q<((ts.drop f).take (i+1 - f)).length),∀k∈((ts.drop f).take (i+1 - f))[q].kids,0<=k/\k<1000000:=by
  intro q hq k hk;have e:((ts.drop f).take (i+1 - f))[q]=ts[f+q]'(by omega):=by simp
  rw[e]at hk;have:=EY (by omega) (ho (f+q) (by omega)) k hk;omega
 refine ν<|θ<|γ U<|ε ?_;refine aK<|ae (ah4 (h0:=h1) (n0:=n1) (lo:=n1) jO.len (by omega) jO.qg j7 (Γ _) ?_ _ 0 _ h3 rfl (by omega) e3 C4 (nF.start _ _)) ⟨rfl,rfl,rfl,trivial⟩;intro h4 E4 e4 JK s4;refine dB s4 ?_;refine θ<|γ U<|γ U<|ε (aj ⟨_,rfl,hQ vo h4 n3 (e1.trans e4) (by unfold part;rw[hf];exact JK.tg e1.1)⟩)
def gU(h:Hf)(n:K)(v:V)(l:List (List Nd)):Prop:=∃hs:List V,hs.length=l.length/\ρ h n 1 v l.length hs/\∀i (h1:i<hs.length) (h2:i<l.length),db h n hs[i] l[i]
theorem Nn{l:List V}{i:Nat}(h:i<l.length):nth l i=some l[i]:=by
 induction l generalizing i with
 | nil=>simp at h
 | cons a l ih=>cases i with
  | zero=>rfl
  | succ i=>exact ih (by simpa using h)
theorem db.one{v:V}{ts:List Nd}(a:db h n v ts):v.one=true:=a.sl.choose_spec.one
theorem db.cells{v:V}{ts:List Nd}(a:db h n v ts):v.cells=[v]:=a.sl.choose_spec.cells
end
end Go.Ev.X
namespace Go.Ev.X
open Go Go.Ev
section
section
variable {C:Nat->Option bP}{E:Env}{h:Hf}{n:K}{q:Env->Hf->K->Prop}{l:List AO}{ah:Nat}{k:V->Hf->K->Prop}
theorem ah5{e z bytes m len:Nat}{zl new cs:List V}{s x:aJ}{b:K}{v:V}(hs:ge E s=some (.sl b 0 len len))(ho:ρ h n z (.sl b 0 len len) len cs)(hx:ge E x=some v)(a:ρ h n z v m new)(h1:(len+m)*bytes<=1000000000)(h2:bytes<=100000)(h3:len+m<=1000000000)(hm:0<m)
 (hk:∀v' h' n',gp h' e z v' (len+m) (cs++new)->v'.blk=n->n'.num=n.num+1->Ext h n h' n'->k v' h' n'):SO C (.app e z bytes zl false s x) E h n k:=
 qw (λ_ _ _ _=>rfl) λT H hT hH=>by
  have po:(!(Nat.ble (Nat.mul (Nat.add (V.len (.sl b 0 len len)) m) bytes) 1000000000&&Nat.ble bytes 100000&&Nat.ble (Nat.add (V.len (.sl b 0 len len)) m) 1000000000))=false:=room (l:=len) (m:=m) (bytes:=bytes) h1 h2 h3;have hb:Nat.ble (Nat.add len m) len=false:=by rw[jV];simp<;>omega
  refine⟨.su n 0 (len+m) z,H.put (some (.c (cs++new) e 0)) n,n.succ,?_,?_⟩
  ·simp only[simple,hT.ge hs,hT.ge hx,a.elems hH,cond_false,ra,po,hb,ho.elems hH,j4];rfl
  ·rw[jr,hH];have hl:(cs++new).length=(len+m)*z:=by rw[gX,ho.1,a.1,iO]
   exact hk _ _ _ ⟨hl,Or.inr ⟨by omega,n,rfl,gw _ _ _⟩⟩ rfl (K.fH n) ((Ext.refl h n).new _)
def Ow(h:Hf)(n:K)(e z:Nat)(v:V)(len:Nat)(cs:List V):Prop:=
 (gp h e z v len cs/\(v=.ns\/v.blk.num<n.num))\/(∃b,v=.sl b 0 0 0/\len=0/\cs=[]/\ρ h n z v 0 [])
theorem Ow.sl{e z len:Nat}{v:V}{cs:List V}(a:Ow h n e z v len cs):ρ h n z v len cs:=by
 rcases a with a | ⟨b,h1,h2,h3,h4⟩
 ·exact a.1.sl a.2
 ·rw[h2,h3];exact h4
theorem WX{d:K}{e z bytes m:Nat}{zl new:List V}{s x:aJ}{b:K}{v:V}(hs:ge E s=some (.sl b 0 0 0))(ho:ρ h n z (.sl b 0 0 0) 0 [])(hx:ge E x=some v)(a:ρ h n z v m new)(h1:m*bytes<=1000000000)(h2:bytes<=100000)(h3:m<=1000000000)
 (hk:∀v' h' n',Ow h' n' e z v' m new->Ext h n h' n'->(v'=.ns\/v'.blk=b\/v'.blk=n)->WO C l ((d,v')::E) h' n' q):WO C (⟨some d,.app e z bytes zl false s x,none,ah⟩::l) E h n q:=by
 by_cases hm:m=0
 ·subst hm;refine cX (qw (λ_ _ _ _=>rfl) λT H hT hH=>?_);have po:(!(Nat.ble (Nat.mul (Nat.add (V.len (.sl b 0 0 0)) 0) bytes) 1000000000&&Nat.ble bytes 100000&&Nat.ble (Nat.add (V.len (.sl b 0 0 0)) 0) 1000000000))=false:=room (l:=0) (m:=0) (bytes:=bytes) (by simp) h2 (by omega);have wB:new=[]:=by have:=a.1;simpa using this
  subst wB;refine⟨.sl b 0 0 0,H,n,?_,?_⟩
  ·have hb:Nat.ble (Nat.add 0 0) 0=true:=rfl;have fM:Nat.beq 0 0=true:=rfl;simp only[simple,hT.ge hs,hT.ge hx,a.elems hH,cond_false,ra,po,hb,fM,cond_true]
  ·rw[hH];exact hk _ _ _ (Or.inr ⟨b,rfl,rfl,rfl,ho⟩) (Ext.refl h n) (Or.inr (Or.inl U))
 ·refine cX (ah5 hs ho hx a (by rw[hY];exact h1) h2 (by omega) (by omega) λv' h' n' g1 g2 g3 g4=>hk v' h' n' (Or.inl ⟨by rw[hY]at g1;exact g1,Or.inr (by rw[g2];omega)⟩) g4 (Or.inr (Or.inr g2)))
end
attribute [local irreducible] WC WO WD SO τ
variable {C:Nat->Option bP}{h:Hf}{n:K}{Q:V->Hf->K->Prop}
section
variable {x y:Nd}{vx kx vy ky:V}{bx by':K}
end
section
variable {x y:Nd}{vx kx vy ky:V}{bx by':K}{h0:Hf}{n0:K}
end
structure Rt(ts:List Nd):Prop where
 bd:Bd ts
 pos:0<ts.length
 ord:∀j,j<ts.length->ord ts j=true
theorem gU.ext{h h':Hf}{n n':K}{v:V}{l:List (List Nd)}(a:gU h n v l)(e:Ext h n h' n'):gU h' n' v l:=by obtain⟨hs,h1,h2,h3⟩:=a;exact⟨hs,h1,h2.ext e,λi g1 g2=>(h3 i g1 g2).ext e⟩
end
end Go.Ev.X
namespace Go.Ev.X
open Go Go.Ev
attribute [local irreducible] WC WO WD SO τ
section
variable {C:Nat->Option bP}{h:Hf}{n:K}{Q:V->Hf->K->Prop}
abbrev ah7:S:=[77,97,112,60]
def Cs(s:S):Nat->Nat->Nat->Nat
 | 0,_,c=>c
 | m+1,i,c=>if i+4<=s.length then Cs s m (i+1) (if (s.drop i).take 4=ah7 then c+1 else c) else c
def calm(s:S):Bool:=decide (Cs s (s.length+1) 0 0<=4)
theorem ah8{s:S}(hl:s.length<10000000):∀(m i c:Nat),s.length+1 - i=m->i<=s.length+1->c<=i->Q (.b (decide (Cs s m i c<=4))) h n->WC C R8 [(k0,st s),(k3,.i .i64 (c:Nat)),(k4,.i .i64 (i:Nat))] h n (blk 0 (sq C R9 (fq [.t k2] Q))):=by
 intro m
 induction m with
 | zero=>
  intro i c hm hi hc hQ;refine aQ ?_;refine ν<|θ<|γ U<|cK U U ⟨by omega,by omega⟩<|γ U<|cW U<|oW U U<|ε ?_;refine aE U (by simp<;>omega)<|bW ?_;have e:decide ((c:Int)<=4)=decide (c<=4):=decide_eq_decide.2 (by omega);rw[Cs,←e]at hQ;refine θ<|γ U<|oW U U<|γ U<|ε (aj ⟨_,rfl,hQ⟩)
 | succ m ih=>
  intro i c hm hi hc hQ;refine aQ ?_;refine ν<|θ<|γ U<|cK U U ⟨by omega,by omega⟩<|γ U<|cW U<|oW U U<|ε ?_;by_cases h4:i+4<=s.length
  ·rw[Cs,az h4]at hQ;refine aD U (by simp<;>omega)<|ao ?_;refine ν<|aK<|θ<|γ U<|γ U<|γ U<|kp U U (show(i:Int)+4=((i+4:Nat):Int) from rfl) ⟨by omega,by omega⟩<|Ae U U U ((show i<=i+4 by omega)) h4<|gg (b:=[77,97,112,60]) U U<|ε ?_;have e:i+4 - i=4:=by omega
   rw[e];refine di U (λhx=>?_) (λhx=>ao ?_)
   ·simp only[bT]at hx;rw[az hx]at hQ;refine aR<|γ U<|cK U U ⟨by omega,by omega⟩<|γ U<|ε ?_;refine aR<|γ U<|cK U U ⟨by omega,by omega⟩<|γ U<|ε ?_;exact ae (ih (i+1) (c+1) (by omega) (by omega) (by omega) hQ) ⟨rfl,rfl,rfl,trivial⟩
   ·simp only[dn]at hx;rw[ai hx]at hQ;refine aR<|γ U<|cK U U ⟨by omega,by omega⟩<|γ U<|ε ?_;exact ae (ih (i+1) c (by omega) (by omega) (by omega) hQ) ⟨rfl,rfl,rfl,trivial⟩
  ·rw[Cs,ai h4]at hQ;refine aE U (by simp<;>omega)<|bW ?_;have e:decide ((c:Int)<=4)=decide (c<=4):=decide_eq_decide.2 (by omega);rw[←e]at hQ;refine θ<|γ U<|oW U U<|γ U<|ε (aj ⟨_,rfl,hQ⟩)
theorem Fb(hC:Cd C){s:S}(hl:s.length<10000000)(hQ:Q (.b (calm s)) h n):τ C (.f 34 [] []) [st s] h n Q:=by refine τ.go hC.f34 U ?_;refine θ<|γ U<|ε ?_;refine θ<|γ U<|ε ?_;refine ν<|θ<|γ U<|ε ?_;exact aK<|ae (ah8 hl _ 0 0 rfl (by omega) (by omega) hQ) ⟨rfl,rfl,rfl,trivial⟩
def wW(v:S×S):Bool:=!decide (200<v.1.length)&&(!decide (200<v.2.length)&&calm v.2)
def IK(l:List (S×S)):Bool:=l.all wW&&decide (l.length<=8)
theorem ah9(hC:Cd C){v:V}{l:List (S×S)}(hv:fC h n v l)(hlen:l.length<10000000)(AI:∀v∈l,v.1.length<10000000/\v.2.length<10000000):∀(m i:Nat),l.length - i=m->i<=l.length->Q (.b ((l.drop i).all wW&&decide (l.length<=8))) h n->WC C Sd [(k0,v),(k3,.i .i64 (i:Nat))] h n (blk 0 (sq C Lw (fq [.t k2] Q))):=by
 intro m
 induction m with
 | zero=>
  intro i hm hi hQ;have:i=l.length:=by omega
  subst this;refine aQ ?_;refine ν<|θ<|γ U<|γ U<|aG U hv<|aP U U<|ε ?_;refine aE U (by simp)<|bW ?_;have e:decide (l.length<=8)=decide ((l.length:Int)<=8):=by simp;omega
  rw[nH,List.all_nil,Bp,e]at hQ;refine θ<|γ U<|aG U hv<|oW U U<|γ U<|ε (aj ⟨_,rfl,hQ⟩)
 | succ m ih=>
  intro i hm hi hQ;have ψ:i<l.length:=by omega
  rw[gi ψ,List.all_cons]at hQ;have hn:=AI _ (dU ψ);have g1:=hv.name ψ 1;have g2:=hv.sort ψ 1;generalize hp:l[i]=p at*;refine aQ ?_;refine ν<|θ<|γ U<|γ U<|aG U hv<|aP U U<|ε ?_;refine aD U (by simp<;>omega)<|ao<|ν<|aK ?_;have no:wW p=false->WC C Sa [] h n (blk 1 (sq C Sb (sq C (.loop Sc) (blk 0 (sq C Lw (fq [.t k2] Q)))))):=by intro hs;rw[hs]at hQ;refine θ<|γ U<|ε (aj ⟨_,rfl,hQ⟩)
  by_cases h1:200<p.1.length
  ·refine θ<|γ U<|γ U<|bh U U hv ψ<|Ω U<|χ U g1<|cW U<|cQ U U<|γ U<|σ U (by simp<;>omega)<|σ U (by simp<;>omega)<|σ U (by simp<;>omega)<|σ U (by simp<;>omega)<|σ U (by simp<;>omega)<|σ U (by simp<;>omega)<|σ U (by simp<;>omega)<|cg U (by simp<;>omega) U<|γ U<|σ U U<|σ U U<|σ U U<|σ U U<|σ U U<|σ U U<|σ U U<|cg U U U<|ε ?_;exact aD U U<|ae (no (by simp[wW,h1])) trivial
  by_cases h2:200<p.2.length
  ·refine θ<|γ U<|γ U<|bh U U hv ψ<|Ω U<|χ U g1<|cW U<|cQ U U<|γ U<|κ U (by simp<;>omega)<|γ U<|κ U (by simp<;>omega)<|γ U<|κ U (by simp<;>omega)<|bh U U hv ψ<|κ U (by simp<;>omega)<|Ω U<|κ U (by simp<;>omega)<|χ U g2<|κ U (by simp<;>omega)<|cW U<|κ U (by simp<;>omega)<|cQ U U<|bE U (by simp<;>omega) U<|γ U<|σ U (by simp<;>omega)<|σ U (by simp<;>omega)<|σ U (by simp<;>omega)<|σ U (by simp<;>omega)<|σ U (by simp<;>omega)<|σ U (by simp<;>omega)<|σ U (by simp<;>omega)<|cg U (by simp<;>omega) U<|ε ?_;exact aD U U<|ae (no (by simp[wW,h2])) trivial
  refine θ<|γ U<|γ U<|bh U U hv ψ<|Ω U<|χ U g1<|cW U<|cQ U U<|γ U<|κ U (by simp<;>omega)<|γ U<|κ U (by simp<;>omega)<|γ U<|κ U (by simp<;>omega)<|bh U U hv ψ<|κ U (by simp<;>omega)<|Ω U<|κ U (by simp<;>omega)<|χ U g2<|κ U (by simp<;>omega)<|cW U<|κ U (by simp<;>omega)<|cQ U U<|bE U (by simp<;>omega) U<|γ U<|κ U (by simp<;>omega)<|γ U<|κ U (by simp<;>omega)<|γ U<|κ U (by simp<;>omega)<|bh U U hv ψ<|κ U (by simp<;>omega)<|Ω U<|κ U (by simp<;>omega)<|χ U g2<|κ U (by simp<;>omega)<|al U U<|Fb hC hn.2<|κ U (by simp<;>omega)<|dR U<|bE U (by simp<;>omega) U<|ε ?_;cases hc:calm p.2 with
  | false=>exact aD U U<|ae (no (by simp[wW,hc])) trivial
  | true=>
   refine aE U U<|ao ?_;have hs:wW p=true:=by simp[wW,hc];omega
   rw[hs,Bp]at hQ;refine aR<|γ U<|cK U U ⟨by omega,by omega⟩<|γ U<|ε ?_;exact ae (ih (i+1) (by omega) (by omega) hQ) ⟨rfl,rfl,trivial⟩
theorem w35(hC:Cd C){v:V}{l:List (S×S)}(hv:fC h n v l)(hlen:l.length<10000000)(AI:∀v∈l,v.1.length<10000000/\v.2.length<10000000)(hQ:Q (.b (IK l)) h n):τ C (.f 35 [] []) [v] h n Q:=by refine τ.go hC.f35 U ?_;refine θ<|γ U<|ε ?_;refine ν<|θ<|γ U<|ε ?_;exact aK<|ae (ah9 hC hv hlen AI _ 0 rfl (by omega) hQ) ⟨rfl,rfl,trivial⟩
structure Fc(ts:List Nd):Prop where
 len:ts.length<10000000
 qg:∀i (hi:i<ts.length),ts[i].kids.length<10000000
 nm:∀i (hi:i<ts.length),ts[i].name.length<10000000/\ts[i].sort.length<10000000
 vl:∀i (hi:i<ts.length),ts[i].vars.length<10000000
 vn:∀i (hi:i<ts.length),∀v∈ts[i].vars,v.1.length<10000000/\v.2.length<10000000
def pW(x:Nd):Bool:=!decide (200<x.name.length)&&(!decide (200<x.sort.length)&&(calm x.name&&(calm x.sort&&(!decide (12<x.kids.length)&&IK x.vars))))
def ph(ts:List Nd):Bool:=!(decide (120<ts.length)&&!decide (ts.length=2001))&&ts.all pW
theorem aia(hC:Cd C){t:V}{ts:List Nd}(ht:db h n t ts)(hb:Fc ts):∀(m i:Nat),ts.length - i=m->i<=ts.length->Q (.b ((ts.drop i).all pW)) h n->WC C R6 [(k0,t),(k3,.i .i64 (i:Nat))] h n (blk 0 (sq C Lv (fq [.t k2] Q))):=by
 intro m;obtain⟨cs,hs⟩:=ht.sl;have hlen:=hb.len
 induction m with
 | zero=>
  intro i hm hi hQ;have:i=ts.length:=by omega
  subst this;refine aQ ?_;refine ν<|θ<|γ U<|γ U<|aG U hs<|aP U U<|ε ?_;refine aE U (by simp)<|bW ?_;refine θ<|γ U<|ε (aj ⟨_,rfl,by simpa using hQ⟩)
 | succ m ih=>
  intro i hm hi hQ;have ψ:i<ts.length:=by omega
  rw[gi ψ,List.all_cons]at hQ;obtain⟨vv,kv,hx⟩:=ht.node ψ;have b1:=hb.nm i ψ;have b2:=hb.qg i ψ;have b3:=hb.vl i ψ;have b4:=hb.vn i ψ;have ln:=hx.name 1;have ls:=hx.sort 1;have lk:=hx.ks 1;have lv:=hx.vs 1;have ik:=hx.kids;have iv:=hx.vars;generalize hp:ts[i]=x at*;refine aQ ?_;refine ν<|θ<|γ U<|γ U<|aG U hs<|aP U U<|ε ?_;refine aD U (by simp<;>omega)<|ao<|ν<|aK ?_;have no:pW x=false->WC C R3 [] h n (blk 1 (sq C R4 (sq C (.loop R5) (blk 0 (sq C Lv (fq [.t k2] Q)))))):=by intro hs;rw[hs]at hQ;refine θ<|γ U<|ε (aj ⟨_,rfl,hQ⟩)
  by_cases g0:200<x.name.length
  ·refine θ<|γ U<|γ U<|bh U U hs ψ<|Ω U<|χ U ln<|cW U<|cQ U U<|γ U<|σ U (by simp<;>omega)<|σ U (by simp<;>omega)<|σ U (by simp<;>omega)<|σ U (by simp<;>omega)<|σ U (by simp<;>omega)<|σ U (by simp<;>omega)<|σ U (by simp<;>omega)<|cg U (by simp<;>omega) U<|γ U<|σ U U<|σ U U<|σ U U<|σ U U<|σ U U<|σ U U<|σ U U<|cg U U U<|γ U<|σ U U<|σ U U<|σ U U<|σ U U<|σ U U<|σ U U<|σ U U<|cg U U U<|γ U<|σ U U<|σ U U<|σ U U<|σ U U<|σ U U<|σ U U<|σ U U<|cg U U U<|γ U<|σ U U<|σ U U<|σ U U<|σ U U<|σ U U<|σ U U<|σ U U<|cg U U U<|ε ?_;exact aD U U<|ae (no (by simp[pW,g0])) trivial
  by_cases g1:200<x.sort.length
  ·refine θ<|γ U<|γ U<|bh U U hs ψ<|Ω U<|χ U ln<|cW U<|cQ U U<|γ U<|κ U (by simp<;>omega)<|γ U<|κ U (by simp<;>omega)<|γ U<|κ U (by simp<;>omega)<|bh U U hs ψ<|κ U (by simp<;>omega)<|Ω U<|κ U (by simp<;>omega)<|χ U ls<|κ U (by simp<;>omega)<|cW U<|κ U (by simp<;>omega)<|cQ U U<|bE U (by simp<;>omega) U<|γ U<|σ U (by simp<;>omega)<|σ U (by simp<;>omega)<|σ U (by simp<;>omega)<|σ U (by simp<;>omega)<|σ U (by simp<;>omega)<|σ U (by simp<;>omega)<|σ U (by simp<;>omega)<|cg U (by simp<;>omega) U<|γ U<|σ U U<|σ U U<|σ U U<|σ U U<|σ U U<|σ U U<|σ U U<|cg U U U<|γ U<|σ U U<|σ U U<|σ U U<|σ U U<|σ U U<|σ U U<|σ U U<|cg U U U<|γ U<|σ U U<|σ U U<|σ U U<|σ U U<|σ U U<|σ U U<|σ U U<|cg U U U<|ε ?_;exact aD U U<|ae (no (by simp[pW,g1])) trivial
  cases g2:calm x.name with
  | false=>
   refine θ<|γ U<|γ U<|bh U U hs ψ<|Ω U<|χ U ln<|cW U<|cQ U U<|γ U<|κ U (by simp<;>omega)<|γ U<|κ U (by simp<;>omega)<|γ U<|κ U (by simp<;>omega)<|bh U U hs ψ<|κ U (by simp<;>omega)<|Ω U<|κ U (by simp<;>omega)<|χ U ls<|κ U (by simp<;>omega)<|cW U<|κ U (by simp<;>omega)<|cQ U U<|bE U (by simp<;>omega) U<|γ U<|κ U (by simp<;>omega)<|γ U<|κ U (by simp<;>omega)<|γ U<|κ U (by simp<;>omega)<|bh U U hs ψ<|κ U (by simp<;>omega)<|Ω U<|κ U (by simp<;>omega)<|χ U ln<|κ U (by simp<;>omega)<|al U U<|Fb hC b1.1<|κ U (by simp<;>omega)<|dR U<|bE U (by simp<;>omega) U<|γ U<|σ U (by simp[g2])<|σ U (by simp[g2])<|σ U (by simp[g2])<|σ U (by simp[g2])<|σ U (by simp[g2])<|σ U (by simp[g2])<|σ U (by simp[g2])<|cg U (by simp[g2]) U<|γ U<|σ U U<|σ U U<|σ U U<|σ U U<|σ U U<|σ U U<|σ U U<|cg U U U<|γ U<|σ U U<|σ U U<|σ U U<|σ U U<|σ U U<|σ U U<|σ U U<|cg U U U<|ε ?_;exact aD U U<|ae (no (by simp[pW,g2])) trivial
  | true=>
  cases g3:calm x.sort with
  | false=>
   refine θ<|γ U<|γ U<|bh U U hs ψ<|Ω U<|χ U ln<|cW U<|cQ U U<|γ U<|κ U (by simp<;>omega)<|γ U<|κ U (by simp<;>omega)<|γ U<|κ U (by simp<;>omega)<|bh U U hs ψ<|κ U (by simp<;>omega)<|Ω U<|κ U (by simp<;>omega)<|χ U ls<|κ U (by simp<;>omega)<|cW U<|κ U (by simp<;>omega)<|cQ U U<|bE U (by simp<;>omega) U<|γ U<|κ U (by simp<;>omega)<|γ U<|κ U (by simp<;>omega)<|γ U<|κ U (by simp<;>omega)<|bh U U hs ψ<|κ U (by simp<;>omega)<|Ω U<|κ U (by simp<;>omega)<|χ U ln<|κ U (by simp<;>omega)<|al U U<|Fb hC b1.1<|κ U (by simp<;>omega)<|dR U<|bE U (by simp<;>omega) U<|γ U<|κ U (by simp[g2])<|γ U<|κ U (by simp[g2])<|γ U<|κ U (by simp[g2])<|bh U U hs ψ<|κ U (by simp[g2])<|Ω U<|κ U (by simp[g2])<|χ U ls<|κ U (by simp[g2])<|al U U<|Fb hC b1.2<|κ U (by simp[g2])<|dR U<|bE U (by simp[g2]) U<|γ U<|σ U (by simp[g3])<|σ U (by simp[g3])<|σ U (by simp[g3])<|σ U (by simp[g3])<|σ U (by simp[g3])<|σ U (by simp[g3])<|σ U (by simp[g3])<|cg U (by simp[g3]) U<|γ U<|σ U U<|σ U U<|σ U U<|σ U U<|σ U U<|σ U U<|σ U U<|cg U U U<|ε ?_;exact aD U U<|ae (no (by simp[pW,g3])) trivial
  | true=>
  by_cases g4:12<x.kids.length
  ·refine θ<|γ U<|γ U<|bh U U hs ψ<|Ω U<|χ U ln<|cW U<|cQ U U<|γ U<|κ U (by simp<;>omega)<|γ U<|κ U (by simp<;>omega)<|γ U<|κ U (by simp<;>omega)<|bh U U hs ψ<|κ U (by simp<;>omega)<|Ω U<|κ U (by simp<;>omega)<|χ U ls<|κ U (by simp<;>omega)<|cW U<|κ U (by simp<;>omega)<|cQ U U<|bE U (by simp<;>omega) U<|γ U<|κ U (by simp<;>omega)<|γ U<|κ U (by simp<;>omega)<|γ U<|κ U (by simp<;>omega)<|bh U U hs ψ<|κ U (by simp<;>omega)<|Ω U<|κ U (by simp<;>omega)<|χ U ln<|κ U (by simp<;>omega)<|al U U<|Fb hC b1.1<|κ U (by simp<;>omega)<|dR U<|bE U (by simp<;>omega) U<|γ U<|κ U (by simp[g2])<|γ U<|κ U (by simp[g2])<|γ U<|κ U (by simp[g2])<|bh U U hs ψ<|κ U (by simp[g2])<|Ω U<|κ U (by simp[g2])<|χ U ls<|κ U (by simp[g2])<|al U U<|Fb hC b1.2<|κ U (by simp[g2])<|dR U<|bE U (by simp[g2]) U<|γ U<|κ U (by simp[g3])<|γ U<|κ U (by simp[g3])<|γ U<|κ U (by simp[g3])<|bh U U hs ψ<|κ U (by simp[g3])<|Ω U<|κ U (by simp[g3])<|χ U lk<|κ U (by simp[g3])<|aG U ik<|κ U (by simp[g3])<|cQ U U<|bE U (by simp[g3]) U<|γ U<|σ U (by simp<;>omega)<|σ U (by simp<;>omega)<|σ U (by simp<;>omega)<|σ U (by simp<;>omega)<|σ U (by simp<;>omega)<|σ U (by simp<;>omega)<|σ U (by simp<;>omega)<|cg U (by simp<;>omega) U<|ε ?_;exact aD U U<|ae (no (by simp[pW,g4])) trivial
  refine θ<|γ U<|γ U<|bh U U hs ψ<|Ω U<|χ U ln<|cW U<|cQ U U<|γ U<|κ U (by simp<;>omega)<|γ U<|κ U (by simp<;>omega)<|γ U<|κ U (by simp<;>omega)<|bh U U hs ψ<|κ U (by simp<;>omega)<|Ω U<|κ U (by simp<;>omega)<|χ U ls<|κ U (by simp<;>omega)<|cW U<|κ U (by simp<;>omega)<|cQ U U<|bE U (by simp<;>omega) U<|γ U<|κ U (by simp<;>omega)<|γ U<|κ U (by simp<;>omega)<|γ U<|κ U (by simp<;>omega)<|bh U U hs ψ<|κ U (by simp<;>omega)<|Ω U<|κ U (by simp<;>omega)<|χ U ln<|κ U (by simp<;>omega)<|al U U<|Fb hC b1.1<|κ U (by simp<;>omega)<|dR U<|bE U (by simp<;>omega) U<|γ U<|κ U (by simp[g2])<|γ U<|κ U (by simp[g2])<|γ U<|κ U (by simp[g2])<|bh U U hs ψ<|κ U (by simp[g2])<|Ω U<|κ U (by simp[g2])<|χ U ls<|κ U (by simp[g2])<|al U U<|Fb hC b1.2<|κ U (by simp[g2])<|dR U<|bE U (by simp[g2]) U<|γ U<|κ U (by simp[g3])<|γ U<|κ U (by simp[g3])<|γ U<|κ U (by simp[g3])<|bh U U hs ψ<|κ U (by simp[g3])<|Ω U<|κ U (by simp[g3])<|χ U lk<|κ U (by simp[g3])<|aG U ik<|κ U (by simp[g3])<|cQ U U<|bE U (by simp[g3]) U<|γ U<|κ U (by simp<;>omega)<|γ U<|κ U (by simp<;>omega)<|γ U<|κ U (by simp<;>omega)<|bh U U hs ψ<|κ U (by simp<;>omega)<|Ω U<|κ U (by simp<;>omega)<|χ U lv<|κ U (by simp<;>omega)<|al U U<|w35 hC iv b3 b4<|κ U (by simp<;>omega)<|dR U<|bE U (by simp<;>omega) U<|ε ?_;cases g5:IK x.vars with
  | false=>exact aD U U<|ae (no (by simp[pW,g5])) trivial
  | true=>
   refine aE U U<|ao ?_;have hsx:pW x=true:=by simp[pW,g2,g3,g5];omega
   rw[hsx,Bp]at hQ;refine aR<|γ U<|cK U U ⟨by omega,by omega⟩<|γ U<|ε ?_;exact ae (ih (i+1) (by omega) (by omega) hQ) ⟨rfl,rfl,trivial⟩
theorem w6(hC:Cd C){t:V}{ts:List Nd}(ht:db h n t ts)(hb:Fc ts)(hQ:Q (.b (ph ts)) h n):τ C (.f 6 [] []) [t] h n Q:=by
 refine τ.go hC.f6 U ?_;obtain⟨cs,hs⟩:=ht.sl;have hlen:=hb.len;refine θ<|γ U<|ε ?_;have go:ph ts=ts.all pW->WC C R7 [(k0,t)] h n (fq [.t k2] Q):=by intro he;rw[he]at hQ;refine ν<|θ<|γ U<|ε ?_;exact aK<|ae (aia hC ht hb _ 0 rfl (by omega) hQ) ⟨rfl,rfl,trivial⟩
 by_cases h1:120<ts.length
 ·refine ν<|θ<|γ U<|aG U hs<|cQ U U<|γ U<|κ U (by simp<;>omega)<|γ U<|κ U (by simp<;>omega)<|aG U hs<|κ U (by simp<;>omega)<|fT U U<|cg U (by simp<;>omega) U<|ε ?_;by_cases h2:ts.length=2001
  ·exact aE U (by simp[h2])<|ao<|ae (go (by simp[ph,h2])) ⟨rfl,trivial⟩
  ·refine aD U (by simp<;>omega) ?_;have e:ph ts=false:=by simp[ph,h1,h2]
   rw[e]at hQ;refine θ<|γ U<|ε (aj ⟨_,rfl,hQ⟩)
 ·refine ν<|θ<|γ U<|aG U hs<|cQ U U<|γ U<|σ U (by simp<;>omega)<|σ U (by simp<;>omega)<|σ U (by simp<;>omega)<|bE U (by simp<;>omega) U<|ε ?_;exact aE U U<|ao<|ae (go (by simp[ph,h1])) ⟨rfl,trivial⟩
end
section
variable {C:Nat->Option bP}{h:Hf}{n:K}{Q:V->Hf->K->Prop}
theorem w19(hC:Cd C){v:V}{l:List (S×S)}(hv:fC h n v l)(hl:l.length<1000000)(hQ:∀v' h' n',gp h' 64 2 v' l.length (px l)->Ext h n h' n'->(v'=.ns\/n.num<=v'.blk.num/\v'.blk.num<n'.num)->Q v' h' n'):τ C (.f 19 [] []) [v] h n Q:=by refine τ.go hC.f19 U ?_;refine θ<|γ U<|ε ?_;refine θ<|γ U<|BX U U hv (by omega) (by omega) (by omega) <| λv3 h3 n3 o3 x3 p3=>γ U<|ε (aj ⟨_,rfl,hQ v3 h3 n3 o3 x3 p3⟩)
theorem w38(hC:Cd C){v:V}{l:List Int}(hv:gh h n .i64 v l)(hl:l.length<1000000)(hQ:∀v' h' n',gp h' 3 1 v' l.length (eI .i64 l)->Ext h n h' n'->(v'=.ns\/n.num<=v'.blk.num/\v'.blk.num<n'.num)->Q v' h' n'):τ C (.f 38 [] []) [v] h n Q:=by refine τ.go hC.f38 U ?_;refine θ<|γ U<|ε ?_;refine θ<|γ U<|BX U U hv (by omega) (by omega) (by omega) <| λv3 h3 n3 o3 x3 p3=>γ U<|ε (aj ⟨_,rfl,hQ v3 h3 n3 o3 x3 p3⟩)
section
variable {h0:Hf}{n0:K}{t:V}{ts:List Nd}
theorem aic(hC:Cd C)(ht:db h0 n0 t ts)(hb:Bd ts){Q1:Ex->Env->Hf->K->Prop}
 (hQ:∀vo m h n E',Ext h0 n0 h n->TO h n0 n vo ts m->da [(k3,vo)] E'->Q1 .normal E' h n):
 ∀(r i:Nat) (vo:V) (m:List (V×V)) (h:Hf) (n:K),ts.length - i=r->i<=ts.length->TO h n0 n vo (ts.take i) m->Gr h0 n0 h n 87 5 vo i (dc (ts.take i) m)->WC C Se [(k0,t),(k3,vo),(k4,.i .i64 (i:Nat))] h n (blk 0 Q1):=by
 have hlen:=hb.len;intro r
 induction r with
 | zero=>
  intro i vo m h n hr hi eE hg;have:i=ts.length:=by omega
  subst this;obtain⟨cs,hs⟩:=(ht.ext hg.ext).sl;rw[fO]at eE;refine aQ ?_;refine ν<|θ<|γ U<|γ U<|aG U hs<|aP U U<|ε ?_;exact aE U (by simp)<|bW (hQ vo m h n _ hg.ext eE ⟨rfl,trivial⟩)
 | succ r ih=>
  intro i vo m h n hr hi eE hg;have ψ:i<ts.length:=by omega
  have vH:=ht.ext hg.ext;obtain⟨cs,hs⟩:=vH.sl;obtain⟨vv,kv,hx⟩:=vH.node ψ;have eF:=kU ts[i] (ρ.one hx.vars) (ρ.one hx.kids);have eU:=hb.qg i ψ;have ug:=hb.vl i ψ;refine aQ ?_;refine ν<|θ<|γ U<|γ U<|aG U hs<|aP U U<|ε ?_;refine aD U (by simp<;>omega)<|ao ?_;refine ν<|aK<|θ<|γ U<|γ U<|bh U U hs ψ<|χ U hx.all<|ea <| λh1 n1 dZ a1 e1=>ct U U a1 (ff rfl rfl eF) <| λh2 a2 b2=>ε ?_;have x2:Ext h n h2 n1:=e1.aA b2 (Γ _);have iG:=hx.vars.ext x2;have pB:=hx.kids.ext x2;have ld3:cD h2 false 1 (.p n (0+3))=some vv:=dV a2 rfl _;have Y8:∀{h' n'},Ext h2 n1 h' n'->cD h' false 1 (.p n (0+4))=some kv:=λe=>dV ((e.2 _ (by omega)).trans a2) U _;have aid:=ρ.below iG (Γ _);have aie:∀{n':K},n1.num<=n'.num->cu n' kv=true:=λe=>ρ.below pB e;refine eS<|dG U<|bc U ld3 aid (ρ.dX iG)<|cJ U U<|w19 hC iG (by omega) <| λv3 h3 n3 o3 x3 p3=>dG U<|bc U (Y8 x3) (aie x3.1) (ρ.dX pB)<|cJ U U<|w38 hC (pB.ext x3) (by omega) <| λv5 h5 n5 o5 x5 p5=>dG U<|gH U U ((x5.2 _ (by have:=x3.1;omega)).trans ((x3.2 _ (by omega)).trans a2)) (E0 o3.cells o3.one) <| λh4 a4 b4=>dG U<|gH U U a4 (AL o5.cells o5.one) <| λh6 a6 b6=>dQ (⟨⟨ak (by simp[Nat.testBit]),ak (by simp[Nat.testBit]),ak (by simp[Nat.testBit]),dJ (Y8 (Ext.refl _ _)) (Y8 x3),trivial⟩,⟨ak (by simp[Nat.testBit]),ak (by simp[Nat.testBit]),ak (by simp[Nat.testBit]),ak (by simp[Nat.testBit]),trivial⟩,trivial⟩) ?_;have x3:Ext h2 n1 h3 n3:=x3;have x5:Ext h3 n3 h5 n5:=x5;have rk:df n h5 h4:=b4;have oB:df n h4 h6:=b6;have lz:=x3.1;have qK:=x5.1;have x6:Ext h n h6 n5:=(((x2.trans x3).trans x5).aA rk (Γ _)).aA oB (Γ _);have Ga:h6 n=some (.c (dT ts[i] v3 v5) 87 0):=a6;have o3:gp h3 64 2 v3 ts[i].vars.length (px ts[i].vars):=o3;have o5:gp h5 3 1 v5 ts[i].kids.length (eI .i64 ts[i].kids):=o5;have Y4:gp h6 64 2 v3 ts[i].vars.length (px ts[i].vars):=(((o3.ext (p3.imp id λh=>x5.2 _ (by omega))).ext (p3.imp id λh=>rk _ (by omega))).ext (p3.imp id λh=>oB _ (by omega)));have Gh:gp h6 3 1 v5 ts[i].kids.length (eI .i64 ts[i].kids):=(o5.ext (p5.imp id λh=>rk _ (by omega))).ext (p5.imp id λh=>oB _ (by omega));have E8:=kU ts[i] o3.one o5.one;have g6:=hg.on x6;refine aR<|γ U<|χ U (cz Ga (oM rfl))<|fx (Cr rfl E8 rfl) <| λh7 n7 wQ a7 x7=>jK U ((g6.on x7).own) U (ρ.whole (len:=1) (by omega) a7 rfl) (by omega) (by omega) (by omega) (by omega) E8 ((g6.on x7).lt) <| λv8 h8 n8 o8 q8 mJ s8=>γ U<|ε ?_;have g8:=(g6.on x7).app o8 q8 mJ s8;have Y5:Ext h n h7 n7:=x6.trans x7;have DT:m.length=i:=by rw[eE.rows.len];simp;omega
  have Gi:ts.take (i+1)=ts.take i++[ts[i]]:=iy ψ;have M9:dc (ts.take i) m++dT ts[i] v3 v5=dc (ts.take (i+1)) (m++[(v3,v5)]):=by rw[Gi,xX (by rw[DT];simp;omega)];rfl
  rw[M9]at g8;have wQ:=x7.1;have ahW:=hg.ext.1;have ahX:n.num<n1.num:=by omega
  have KO:∀b:K,b.num<n.num->(vo=.ns\/b.num≠vo.blk.num)->h8 b=h b:=λb hb hv=>by rw[s8 b (by omega) hv,Y5.2 b hb]
  have l3:v3=.ns\/v3.blk.num<n3.num:=p3.imp id And.right;have l5:v5=.ns\/v5.blk.num<n5.num:=p5.imp id And.right;have Na:v3=.ns\/(vo=.ns\/v3.blk.num≠vo.blk.num):=p3.imp id λh=>hg.lt.imp id λg=>by omega
  have Nb:v5=.ns\/(vo=.ns\/v5.blk.num≠vo.blk.num):=p5.imp id λh=>hg.lt.imp id λg=>by omega
  have f3:v3=.ns\/h8 v3.blk=h6 v3.blk:=by
   rcases l3 with l | l
   ·exact Or.inl l
   ·rcases Na with g | g
    ·exact Or.inl g
    ·exact Or.inr (by rw[s8 _ (by omega) g,x7.2 _ (by omega)];rfl)
  have f5:v5=.ns\/h8 v5.blk=h6 v5.blk:=by
   rcases l5 with l | l
   ·exact Or.inl l
   ·rcases Nb with g | g
    ·exact Or.inl g
    ·exact Or.inr (by rw[s8 _ (by omega) g,x7.2 _ (by omega)];rfl)
  have Nc:v5=.ns\/n0.num<=v5.blk.num:=p5.imp id λh=>by omega
  have Nf:v3=.ns\/n0.num<=v3.blk.num:=p3.imp id λh=>by omega
  have k8:v8=.ns\/n5.num<=v8.blk.num:=Or.inr (by rw[q8];omega);have Ng:v3=.ns\/v3.blk.num<n5.num:=l3.imp id λh=>by omega
  have g5:v5=.ns\/n.num<=v5.blk.num:=p5.imp id λh=>by omega
  have g3:v3=.ns\/n.num<=v3.blk.num:=p3.imp id λh=>by omega
  have ro:RO h8 n0 n8 v8 ts[i] (v3,v5):=by
   refine⟨ρ.gq (Y4.sl (n:=n5) Ng) f3 (by omega),ρ.gq (Gh.sl (n:=n5) l5) f5 (by omega),?_,Nc,Nf,dh.of l3 (p5.imp id And.left),dh.of Ng k8,dh.of l5 k8⟩;rcases Gh.su with g | g
   ·exact Or.inl (nM.1 (Gh.nil g))
   ·rcases f5 with f | f
    ·have:=g.1;rw[f]at this;cases this
    ·exact Or.inr ⟨g.1,by rw[f];exact g.2⟩
  refine aR<|γ U<|cK U U ⟨by omega,by omega⟩<|γ U<|ε ?_;refine ae (ih (i+1) v8 (m++[(v3,v5)]) h8 n8 (by omega) (by omega) ⟨?_,?_,?_,Or.inr (by rw[q8];omega)⟩ g8) ⟨rfl,rfl,rfl,trivial⟩
  ·have:=g8.sl;have el:(ts.take (i+1)).length=i+1:=by simp;omega
   rw[el];exact this
  ·rw[Gi];exact dw.app (dw.mono (λx p a=>a.step KO (by omega) (by rw[q8];omega)) eE.rows) ⟨ro,trivial⟩
  ·rw[List.pairwise_append];refine⟨eE.pw,List.pairwise_singleton _ _,?_⟩;intro p hp q hq;rw[mN]at hq;subst hq;obtain⟨j,hj,rfl⟩:=lB hp;have hr:=eE.rows.get j (by rw[←eE.rows.len];exact hj) hj;have b1:=ρ.eG hr.b;have b2:=ρ.eG hr.k;exact⟨dh.of b2 g5,dh.of b1 g5,dh.of b2 g3⟩
end
theorem w9g(hC:Cd C){t:V}{ts:List Nd}(ht:db h n t ts)(hb:Bd ts)(hQ:∀vo h' n',Ext h n h' n'->TG h' n n' vo ts->Q vo h' n'):τ C (.f 9 [] []) [t] h n Q:=by refine τ.go hC.f9 U ?_;refine θ<|γ U<|ε ?_;refine θ<|γ U<|ε ?_;refine ν<|θ<|γ U<|ε ?_;refine aK<|ae (aic hC ht hb ?_ _ 0 .ns [] h n rfl (by omega) ⟨by simp;exact ρ.ns h n 5,trivial,List.Pairwise.nil,Or.inl U⟩ (by simpa[dc]using Gr.ns (Ext.refl h n))) ⟨rfl,rfl,rfl,trivial⟩;intro vo m h1 n1 E1 e1 AM s1;refine dB s1 ?_;refine θ<|γ U<|γ U<|ε (aj ⟨_,rfl,hQ vo h1 n1 e1 (AM.tg (Γ _))⟩)
theorem w9(hC:Cd C){t:V}{ts:List Nd}(ht:db h n t ts)(hb:Bd ts)(hQ:∀vo h' n',Ext h n h' n'->db h' n' vo ts->Q vo h' n'):τ C (.f 9 [] []) [t] h n Q:=
 w9g hC ht hb λvo h' n' e g=>hQ vo h' n' e g.t
end
section
variable {C:Nat->Option bP}{h:Hf}{n:K}{Q:V->Hf->K->Prop}
theorem aih(p q:S×S):oE .eql (.agg [(0,.str),(1,.str)]) (.a [st p.1,st p.2]) (.a [st q.1,st q.2])=some (.b (decide (p=q))):=by
 have e1:=G5 p.1 q.1;have e2:=G5 p.2 q.2;have e3:decide (p=q)=(decide (p.1=q.1)&&decide (p.2=q.2)):=by
  by_cases h:p=q
  ·subst h;simp
  ·have:¬ (p.1=q.1/\p.2=q.2):=λh'=>h (Prod.ext h'.1 h'.2);by_cases h1:p.1=q.1<;>by_cases h2:p.2=q.2<;>simp_all
 rw[e3,←e1,←e2];simp only[oE,mF,CI,nth,dX];cases (Nat.beq p.1.length q.1.length&&Nat.beq (bR p.1) (bR q.1))<;>cases (Nat.beq p.2.length q.2.length&&Nat.beq (bR p.2) (bR q.2))<;>rfl
theorem aii(p q:S×S):oE .neq (.agg [(0,.str),(1,.str)]) (.a [st p.1,st p.2]) (.a [st q.1,st q.2])=some (.b (!decide (p=q))):=by
 have:=aih p q;simp only[oE]at this ⊢;split at this
 ·rename_i b h;cases this;rfl
 ·cases this
section
variable {h0:Hf}{n0:K}{ta tb:V}{a b:List Nd}
end
end
section
variable {C:Nat->Option bP}{h:Hf}{n:K}{Q:V->Hf->K->Prop}
def Ag(n:K)(h H:Hf):Prop:=∀k:K,k.num<n.num->H k=h k
theorem Ag.refl(n:K)(h:Hf):Ag n h h:=λ_ _=>rfl
theorem Ag.hp{n:K}{h H:Hf}(a:Ag n h H)(b:K)(o:Option O)(hb:n.num<=b.num):Ag n h (X.hp H b o):=λk hk=>by rw[mh _ _ (pN (by omega))];exact a k hk
theorem Ag.ext{n n1 n2:K}{h H H':Hf}(a:Ag n h H)(e:Ext H n1 H' n2)(hn:n.num<=n1.num):Ag n h H':=λk hk=>by rw[e.2 k (by omega)];exact a k hk
theorem Ag.aA{n b:K}{h H H':Hf}(a:Ag n h H)(e:df b H H')(hn:n.num<=b.num):Ag n h H':=λk hk=>by rw[e k (by omega)];exact a k hk
theorem Ag.x{n n':K}{h H:Hf}(a:Ag n h H)(hn:n.num<=n'.num):Ext h n H n':=⟨hn,a⟩
theorem Ext.ag{n n':K}{h H:Hf}(a:Ext h n H n'):Ag n h H:=a.2
theorem IL{h:Hf}{b k:K}{o:Option O}(hk:k.num≠b.num):hp h b o k=h k:=mh _ _ (pN hk)
section
variable {x y:Nd}{vx kx vy ky:V}{b6 b7:K}{h0:Hf}{n0:K}
end
section
variable {h0:Hf}{n0:K}{ta tb:V}{a b:List Nd}
end
end
section
variable {C:Nat->Option bP}{h:Hf}{n:K}{Q:V->Hf->K->Prop}
end
section
variable {C:Nat->Option bP}{h:Hf}{n:K}{Q:V->Hf->K->Prop}
section
variable {x y:Nd}{vx kx vy ky:V}{kZ bx by':K}{hs:Hf}{ns:K}
end
end
section
variable {C:Nat->Option bP}{h:Hf}{n:K}{Q:V->Hf->K->Prop}
end
section
variable {C:Nat->Option bP}{h:Hf}{n:K}{Q:V->Hf->K->Prop}
theorem aij(hC:Cd C){s:S}{c:Nat}(hc:c<256)(hQ:Q (.i .i64 (bI c s)) h n):τ C (.f 267 [] []) [st s,.i .u8 (c:Nat)] h n Q:=by
 refine τ.pm hC.f267 λH hH=>⟨.i .i64 (bI c s),H,n,?_,by rw[hH];exact hQ⟩;show DA [.s s.length (bR s),.i .u8 (.ofNat c)] H n=_;have:Nat.blt c 256=true:=by rw[gf];simpa using hc
 simp only[DA,this,cond_true,adY,bI];cases ze c s 0<;>rfl
theorem WY(hC:Cd C){s:S}{c:Nat}(hc:c<256)(hQ:Q (.i .i64 (bI c s)) h n):τ C (.f 209 [] []) [st s,.i .u8 (c:Nat)] h n Q:=by refine τ.go hC.f209 U ?_;refine θ<|γ U<|ε ?_;refine θ<|γ U<|γ U<|al U U<|aij hC hc<|γ U<|ε (aj ⟨_,rfl,hQ⟩)
theorem WZ(hC:Cd C){s:S}{c:Nat}(hc:c<256)(hQ:Q (.i .i64 (bI c s)) h n):τ C (.f 145 [] []) [st s,.i .u8 (c:Nat)] h n Q:=by refine τ.go hC.f145 U ?_;refine θ<|γ U<|ε ?_;refine θ<|γ U<|γ U<|al U U<|WY hC hc<|γ U<|ε (aj ⟨_,rfl,hQ⟩)
theorem aik(hC:Cd C){r:Nat}(hr:r<=1114111)(fQ:r<55296\/57344<=r)(hQ:Q (.b true) h n):τ C (.f 305 [] []) [.i .i32 (r:Nat)] h n Q:=by
 refine τ.go hC.f305 U ?_;refine θ<|γ U<|ε ?_;refine ν<|aK ?_;by_cases h1:r<55296
 ·refine θ<|γ U<|oW U U<|γ U<|κ U (by simp<;>omega)<|γ U<|κ U (by simp<;>omega)<|aP U U<|cg U (by simp<;>omega) U<|γ U<|ε ?_;refine aD U (by simp<;>omega) ?_;refine θ<|γ U<|ε (aj ⟨_,rfl,hQ⟩)
 ·refine θ<|γ U<|oW U U<|γ U<|κ U (by simp<;>omega)<|γ U<|κ U (by simp<;>omega)<|aP U U<|cg U (by simp<;>omega) U<|γ U<|ε ?_;refine aE U (by simp<;>omega) ?_;refine θ<|γ U<|aP U U<|γ U<|κ U (by simp<;>omega)<|γ U<|κ U (by simp<;>omega)<|oW U U<|cg U (by simp<;>omega) U<|γ U<|ε ?_;refine aD U (by simp<;>omega) ?_;refine θ<|γ U<|ε (aj ⟨_,rfl,hQ⟩)
theorem ail{cs:S}(ke:∀c∈cs,c.toNat<128){b:K}{h0:Hf}{n0:K}{Q1:Ex->Env->Hf->K->Prop}(eJ:n0.num<=b.num)(hQ:∀E h n,Ext h0 n0 h n->Q1 .normal E h n):∀(m pos:Nat) (h:Hf) (n:K),cs.length - pos=m->pos<=cs.length->h b=some (.it cs.length (bR cs) pos)->Ext h0 n0 h n->∀v,WC C SU [(Ld,.p b 0),(k0,v)] h n (blk 9 Q1):=by
 intro m
 induction m with
 | zero=>
  intro pos h n hm hp hb e v;refine aQ ?_;refine θ<|BZ U hb (by omega)<|dj U U<|ε ?_;refine ν ?_;exact aE U U<|bW (hQ _ _ _ e)
 | succ m ih=>
  intro pos h n hm hp hb e v;have ψ:pos<cs.length:=by omega
  refine aQ ?_;refine θ<|H4 U hb (by omega) <| λr w h1 R a1 b1=>dj U U<|ε ?_;refine ν<|aD U U<|ao<|aK ?_;obtain⟨er,ew⟩:=R.lo (ke _ (dU ψ));have hr:=ke _ (dU ψ);refine θ<|dj U U<|dj U U<|γ U<|γ U<|ε ?_;refine θ<|γ U<|bQ U U<|ε ?_;refine aE U (by simp<;>omega)<|ao ?_;exact ae (ih (pos+w) h1 n (by omega) (by omega) a1 (e.aA b1 eJ) v) ⟨rfl,rfl,trivial⟩
theorem aim(hC:Cd C){cs:S}{r:Nat}(ke:∀c∈cs,c.toNat<128)(hlen:4<=cs.length)(oz:cs.length<1000000)(hr:r<=1114111)(fQ:r<55296\/57344<=r)
 (hQ:∀i:Int,(0<=i↔∃x∈cs,x.toNat=r)->∀h' n',Ext h n h' n'->Q (.i .i64 i) h' n'):τ C (.f 261 [] []) [st cs,.i .i32 (r:Nat)] h n Q:=by
 have jn:128<=r->¬ ∃x∈cs,x.toNat=r:=λh ⟨x,hx,e⟩=>by have:=ke x hx;omega
 refine τ.go hC.f261 U ?_;refine θ<|γ U<|ε ?_;refine aK ?_;by_cases h1:r<128
 ·refine θ<|γ U<|oW U U<|γ U<|κ U (by simp<;>omega)<|γ U<|κ U (by simp<;>omega)<|aP U U<|cg U (by simp<;>omega) U<|γ U<|ε ?_;refine aD U (by simp<;>omega) ?_;refine θ<|γ U<|γ U<|pR U ⟨by omega,by omega⟩<|al U U<|WZ hC (c:=r) (by omega)<|γ U<|ε (aj ⟨_,rfl,hQ _ LM _ _ (Ext.refl _ _)⟩)
 ·refine θ<|γ U<|oW U U<|γ U<|κ U (by simp<;>omega)<|γ U<|κ U (by simp<;>omega)<|aP U U<|cg U (by simp<;>omega) U<|γ U<|ε ?_;refine aE U (by simp<;>omega) ?_;refine θ<|γ U<|bQ U U<|γ U<|ε ?_;have neg:(0:Int) <= -1↔∃x∈cs,x.toNat=r:=⟨λh=>by omega,λh=>absurd h (jn (by omega))⟩;by_cases h2:r=65533
  ·refine aD U (by simp<;>omega) ?_;refine ν<|θ<|γ U<|HZ U <| λh1 n1 dZ a1 e1=>ε ?_;refine aK<|ae (ail ke (h0:=h) (n0:=n) (Γ _) (λE h' n' e=>?_) _ 0 h1 n1 rfl (by omega) a1 e1 _) ⟨rfl,rfl,trivial⟩;refine θ<|γ U<|ε (aj ⟨_,rfl,hQ _ neg _ _ e⟩)
  ·refine aE U (by simp<;>omega) ?_;refine θ<|γ U<|al U U<|aik hC hr fQ<|dR U<|γ U<|ε ?_;refine aE U U<|Ky ?_;refine θ<|γ U<|adX U (by simp only[sL,gf,jV,qm,bG,bT];omega) <| λbs rf fM zd=>γ U<|ε ?_;have hbm:=zd (by omega);refine θ<|γ U<|cW U<|kQ U U ((show((bs.length:Nat):Int) - 1=((bs.length - 1:Nat):Int) by omega)) ⟨by omega,by omega⟩<|γ U<|ε ?_;refine θ<|γ U<|γ U<|ε ?_;refine θ<|γ U<|ε ?_;refine ν<|aK<|aQ ?_;have ψ:bs.length - 1<cs.length:=by omega
   have bC:cs[bs.length - 1].toNat≠bs[bs.length - 1].toNat:=by have a:=ke _ (dU ψ);have b:=hbm _ (dU (l:=bs) (n:=bs.length - 1) (by omega));omega
   refine ν<|θ<|γ U<|γ U<|cW U<|aP U U<|ε ?_;refine aD U (by simp<;>omega)<|ao<|aK<|Ky ?_;refine ν<|eS<|aL U<|aL U<|Lh U U ψ<|aL U<|aL U<|Lh U U (by omega)<|Eh U U<|dQ (by simp[AG,mn,pv,Nat.testBit]) ?_;refine aD U (by simp<;>omega) ?_;refine eS<|aL U<|aL U<|Eo U U ((show((bs.length - 1:Nat):Int)+1=((bs.length:Nat):Int) by omega)) ⟨by omega,by omega⟩<|Ek U U U (by omega) (by omega)<|aL U<|aL U<|Lh U U (by omega)<|cJ U U<|WZ hC (by have:=(bs[bs.length - 1]).toNat_lt;omega)<|aL U<|dQ (by simp[AG,mn,pv,Nat.testBit]) ?_;refine ν<|θ<|γ U<|aP U U<|ε ?_;have hm:bI (bs[bs.length - 1].toNat) ((cs.drop bs.length).take (cs.length - bs.length)) = -1:=ad1 λ⟨x,hx,e⟩=>by have a:=ke x (Bm (uE hx));have b:=hbm _ (dU (l:=bs) (n:=bs.length - 1) (by omega));omega
   refine aD U (by simp only[hm];rfl) ?_;refine θ<|γ U<|ε (aj ⟨_,rfl,hQ _ neg _ _ (Ext.refl _ _)⟩)
end
section
variable {C:Nat->Option bP}{h:Hf}{n:K}{Q:V->Hf->K->Prop}
def kC(F:Nat->Bool):List V:=(List.range 256).map λj=>V.b (F j)
theorem Fe(F:Nat->Bool):(kC F).length=256:=by simp[kC]
theorem aio{α:Type}(f:α->Bool):∀l:List α,bN (l.map λj=>V.b (f j))=true:=by intro l;induction l<;>simp_all [bN,V.one]
theorem W0(F:Nat->Bool):bN (kC F)=true:=aio F _
theorem aip{α:Type}:∀{l:List α} {i:Nat} (h:i<l.length),nth l i=some l[i]:=by
 intro l
 induction l with
 | nil=>intro i h;simp at h
 | cons a l ih=>
  intro i h;cases i with
  | zero=>rfl
  | succ i=>simpa[nth]using ih (i:=i) (by simpa using h)
theorem aiq(F:Nat->Bool){j:Nat}(h:j<256):nth (kC F) j=some (.b (F j)):=by rw[aip (by rw[Fe];exact h)];simp[kC]
theorem air(F:Nat->Bool)(j:Nat)(b:Bool):(kC F).set j (.b b)=kC λi=>if i=j then b else F i:=by
 apply Dk
 ·simp[kC]
 ·intro i h1 h2;simp only[kC,List.getElem_set,List.getElem_map,List.getElem_range];by_cases h:i=j
  ·subst h;simp
  ·rw[ai (Ne.symm h),ai h]
theorem W1(hC:Cd C){m:Nat}(hQ:Q (.b (decide (8<m))) h n):τ C (.f 262 [] []) [.i .i64 (m:Nat)] h n Q:=by
 refine τ.go hC.f262 U ?_;refine θ<|γ U<|ε ?_;refine θ<|γ U<|cQ U U<|γ U<|ε (aj ⟨_,rfl,?_⟩);have:decide ((8:Int)<(m:Nat))=decide (8<m):=by by_cases h:8<m<;>simp[h]<;>omega
 rw[this];exact hQ
def nc(cs:S)(j:Nat):Bool:=decide (∃x∈cs,x.toNat=j)
theorem ais{cs:S}{i:Nat}(hi:i<cs.length)(j:Nat):nc (cs.take (i+1)) j=if j=cs[i].toNat then true else nc (cs.take i) j:=by
 unfold nc;rw[iy hi];by_cases h:j=cs[i].toNat
 ·rw[az h];simp only[bT];exact⟨cs[i],Di _ (mN.2 rfl),h.symm⟩
 ·rw[ai h];congr 1;apply propext;constructor
  ·rintro⟨x,hx,e⟩;rcases kc.1 hx with hx | hx
   ·exact⟨x,hx,e⟩
   ·simp only[mN]at hx;subst hx;exact absurd e.symm h
  ·rintro⟨x,hx,e⟩;exact⟨x,List.mem_append_left _ hx,e⟩
theorem ait{cs:S}(ke:∀c∈cs,c.toNat<128)(hl:cs.length<1000000){b:K}{h0:Hf}{n0:K}{Q1:Ex->Env->Hf->K->Prop}(eJ:n0.num<=b.num)
 (hQ:∀v E h n,Ext h0 n0 h n->h b=some (.c (kC (nc cs)) 315 0)->Q1 .normal ((k9,v)::(k8,.i .i64 (cs.length:Nat))::(k7,st cs)::(k6,.i .i64 (cs.length:Nat))::(k0,st cs)::(k2,.p b 0)::E) h n):
 ∀(m i:Nat) (h:Hf) (n:K),cs.length - i=m->i<=cs.length->h b=some (.c (kC (nc (cs.take i))) 315 0)->Ext h0 n0 h n->WC C SV [(k0,st cs),(k2,.p b 0),(k4,.i .i64 (i:Nat))] h n (blk 0 Q1):=by
 intro m
 induction m with
 | zero=>
  intro i h n hm hi hb e;have:i=cs.length:=by omega
  subst this;rw[fO]at hb;refine aQ ?_;refine ν<|θ<|γ U<|γ U<|cW U<|aP U U<|ε ?_;exact aE U (by simp)<|bW (hQ _ _ _ _ e hb)
 | succ m ih=>
  intro i h n hm hi hb e;have ψ:i<cs.length:=by omega
  have hc:=ke _ (dU ψ);refine aQ ?_;refine ν<|θ<|γ U<|γ U<|cW U<|aP U U<|ε ?_;refine aD U (by simp<;>omega)<|ao ?_;refine ν<|aK<|θ<|γ U<|γ U<|mq U U ψ<|γ U<|ε ?_;refine ν<|θ<|γ U<|fU U U<|ε ?_;refine aE U (by simp<;>omega)<|ao ?_;have hs:mG (kC (nc (cs.take i))) 0 (0+cs[i].toNat*1) 1 (.b true)=some (kC (nc (cs.take (i+1)))):=by rw[show kC (nc (cs.take (i+1)))=(kC (nc (cs.take i))).set cs[i].toNat (.b true) from by rw[air];congr 1;funext j;exact ais ψ j];exact HT rfl rfl (by rw[show 0+cs[i].toNat*1=cs[i].toNat by omega];exact HY _ (by rw[Fe];omega))
  refine aR<|γ U<|H5 U U (by omega)<|ct U U hb hs <| λh1 a1 b1=>ε ?_;refine aR<|γ U<|cK U U ⟨by omega,by omega⟩<|γ U<|ε ?_;exact ae (ih (i+1) h1 n (by omega) (by omega) a1 (e.aA b1 eJ)) ⟨rfl,rfl,rfl,trivial⟩
theorem aiu{E:Env}{h:Hf}{k k':K}{agg:Bool}{sz:Nat}{p v v':V}(h1:lk E k=some p)(h2:cD h agg sz p=some v)(h3:lk E k'=some v'):
 oK [.cell k agg sz,.t k'] E h=some (.u [v,v']):=by
 simp only[oK,sW,wa,h1,h2,h3]
set_option maxRecDepth 100000 in
theorem aiv(hC:Cd C){cs:S}(ke:∀c∈cs,c.toNat<128)(hl:cs.length<1000000)(hQ:∀h' n',Ext h n h' n'->Q (.u [.a (kC (nc cs)),.b true]) h' n'):τ C (.f 263 [] []) [st cs] h n Q:=by refine τ.go hC.f263 U ?_;refine θ<|ea <| λh1 n1 dZ a1 e1=>γ U<|ε ?_;refine ν<|θ<|γ U<|ε ?_;have Gj:h1 n=some (.c (kC (nc (cs.take 0))) 315 0):=a1;refine aK<|ae (ait ke hl (h0:=h) (n0:=n) (Γ _) (λv E h' n' e a=>?_) _ 0 h1 n1 rfl (by omega) Gj e1) ⟨rfl,rfl,rfl,trivial⟩;have hld:∀{A3:Hf},A3 n=some (.c (kC (nc cs)) 315 0)->cD A3 true 256 (.p n 0)=some (.a (kC (nc cs))):=λa=>cz a (oM (Fe _));refine θ<|χ U (hld a)<|ct U U (a) (ff (Fe _) U (W0 _)) <| λh2 a2 b2=>γ U<|ε ?_;exact aj ⟨_,aiu rfl (hld a2) U,hQ _ _ (e.aA b2 (Γ _))⟩
theorem aix(hC:Cd C){b:K}{F:Nat->Bool}(hb:h b=some (.c (kC F) 315 0)){c:UInt8}(hQ:Q (.b (F c.toNat)) h n):τ C (.f 264 [] []) [.p b 0,.i .u8 (c.toNat:Nat)] h n Q:=by have hc:=c.toNat_lt;refine τ.go hC.f264 U ?_;refine θ<|γ U<|ε ?_;refine θ<|γ U<|γ U<|adj U<|H5 U U (by omega)<|χ U (dV hb (o:=0+c.toNat*1) (by rw[show 0+c.toNat*1=c.toNat by omega];exact aiq F hc) _)<|γ U<|ε (aj ⟨_,rfl,hQ⟩)
def vj(s cs:S):Prop:=∃c∈s,∃x∈cs,x.toNat=c.toNat
section
variable {s cs:S}(ke:∀c∈cs,c.toNat<128)(hl:s.length<1000000){h0:Hf}{n0:K}(hQ:∀i:Int,(0<=i↔vj s cs)->∀h' n',Ext h0 n0 h' n'->Q (.i .i64 i) h' n')
include ke hl hQ in
theorem aiy (hC:Cd C) {b:K} (eJ:n0.num<=b.num) {Q1:Ex->Env->Hf->K->Prop} (JL:∀i:Int,(0<=i↔vj s cs)->∀E h' n',Ext h0 n0 h' n'->Q1 .ret ((k4,.i .i64 i)::E) h' n') (Gk:¬ vj s cs->∀E h' n',Ext h0 n0 h' n'->Q1 .normal E h' n'):
 ∀(m i:Nat) (h:Hf) (n:K),s.length - i=m->i<=s.length->h b=some (.c (kC (nc cs)) 315 0)->Ext h0 n0 h n->(∀j (hj:j<s.length),j<i->nc cs s[j].toNat=false)->WC C SR [(k0,st s),(k6,.p b 0),(k8,.i .i64 (i:Nat))] h n (blk 0 Q1):=by
 intro m
 induction m with
 | zero=>
  intro i h n hm hi hb e jn;refine aQ ?_;refine ν<|θ<|γ U<|γ U<|cW U<|aP U U<|ε ?_;refine aE U (by simp<;>omega)<|bW (Gk (λ⟨c,hc,hx⟩=>?_) _ _ _ e);obtain⟨j,hj,rfl⟩:=lB hc;have:=jn j hj (by omega);simp only[nc,dn]at this;exact this hx
 | succ m ih=>
  intro i h n hm hi hb e jn;have ψ:i<s.length:=by omega
  refine aQ ?_;refine ν<|θ<|γ U<|γ U<|cW U<|aP U U<|ε ?_;refine aD U (by simp<;>omega)<|ao ?_;refine ν<|aK<|θ<|γ U<|γ U<|mq U U (ψ)<|al U U<|aix hC hb<|ε ?_;refine di U (λhx=>?_) (λhx=>ao ?_)
  ·simp only[nc,bT]at hx;refine θ<|γ U<|γ U<|ε (aj (JL _ ⟨λ_=>⟨_,dU ψ,hx⟩,λ_=>by omega⟩ _ _ _ e))
  ·refine aR<|γ U<|cK U U ⟨by omega,by omega⟩<|γ U<|ε ?_;refine ae (ih (i+1) h n (by omega) (by omega) hb e (λj hj Jv=>?_)) ⟨rfl,rfl,rfl,trivial⟩;by_cases h:j=i
   ·subst h;exact hx
   ·exact jn j hj (by omega)
include ke hl hQ in
theorem aiz (hC:Cd C) {b:K} (eJ:n0.num<=b.num) (tK:4<=cs.length) (iV:cs.length<1000000) {Q1:Ex->Env->Hf->K->Prop} (JL:∀i:Int,(0<=i↔vj s cs)->∀E h' n',Ext h0 n0 h' n'->Q1 .ret ((k4,.i .i64 i)::E) h' n') (Gk:¬ vj s cs->∀E h' n',Ext h0 n0 h' n'->Q1 .normal E h' n'):
 ∀(m i:Nat) (h:Hf) (n:K),s.length - i<=m->i<=s.length->h b=some (.it s.length (bR s) i)->b.num<n.num->Ext h0 n0 h n->(∀j (hj:j<s.length),j<i->∀x∈cs,x.toNat≠s[j].toNat)->WC C SS [(k1,st cs),(eZ,.p b 0)] h n (blk 2 Q1):=by
 intro m
 induction m with
 | zero=>
  intro i h n hm hi hb gz e jn;refine aQ ?_;refine θ<|BZ U (hb) (by omega)<|dj U U<|ε ?_;refine ν<|aE U U<|bW (Gk (λ⟨c,hc,x,hx,he⟩=>?_) _ _ _ e);obtain⟨j,hj,rfl⟩:=lB hc;exact jn j hj (by omega) x hx he
 | succ m ih=>
  intro i h n hm hi hb gz e jn;refine aQ ?_;by_cases ψ:i<s.length
  ·refine θ<|H4 U (hb) (by omega) <| λr w h1 R a1 b1=>dj U U<|ε ?_;refine ν<|aD U U<|ao<|aK ?_;have hrk:r<=1114111/\(r<55296\/57344<=r):=by
    by_cases hb:s[i].toNat<128
    ·have:=(R.lo hb).1;omega
    ·exact(R.hi (by omega)).2
   have e1:=e.aA b1 eJ;refine θ<|dj U U<|dj U U<|γ U<|γ U<|ε ?_;refine θ<|γ U<|γ U<|al U U<|aim hC ke tK iV hrk.1 hrk.2 <| λiv hiv h2 n2 e2=>fU U U<|ε ?_;refine di U (λhx=>?_) (λhx=>ao ?_)
   ·simp only[bT]at hx;refine θ<|γ U<|γ U<|ε ?_;refine aj (JL _ ⟨λ_=>?_,λ_=>by omega⟩ _ _ _ (e1.trans e2));obtain⟨x,hx,he⟩:=hiv.1 hx;have aqg:=ke x hx;have aiC:s[i].toNat<128:=by
     by_cases hb:s[i].toNat<128
     ·exact hb
     ·have:=(R.hi (by omega)).1;omega
    exact⟨_,dU ψ,x,hx,by have:=(R.lo aiC).1;omega⟩
   ·simp only[dn]at hx;have aiD:b.num<n.num:=gz;refine ae (ih (i+w) h2 n2 (by have:=R.one;omega) R.le (by rw[e2.2 _ aiD];exact a1) (by have:=e2.1;omega) (e1.trans e2) (λj hj Jv x Y9 he=>?_)) ⟨rfl,rfl,trivial⟩;by_cases qA:j<i
    ·exact jn j hj qA x Y9 he
    ·by_cases hb:s[i].toNat<128
     ·obtain⟨er,ew⟩:=R.lo hb;have:j=i:=by omega
      subst this;exact hx (hiv.2 ⟨x,Y9,by omega⟩)
     ·have:=R.all (by omega) j hj (by omega) Jv;have:=ke x Y9;omega
  ·refine θ<|BZ U (hb) (by omega)<|dj U U<|ε ?_;refine ν<|aE U U<|bW (Gk (λ⟨c,hc,x,hx,he⟩=>?_) _ _ _ e);obtain⟨j,hj,rfl⟩:=lB hc;exact jn j hj (by omega) x hx he
end
set_option maxRecDepth 100000 in
theorem aiE(hC:Cd C){s cs:S}(hs:s≠[])(hl:s.length<1000000)(ke:∀c∈cs,c.toNat<128)(tK:4<=cs.length)(iV:cs.length<1000000)
 (hQ:∀i:Int,(0<=i↔vj s cs)->∀h' n',Ext h n h' n'->Q (.i .i64 i) h' n'):τ C (.f 195 [] []) [st s,st cs] h n Q:=by
 have bC:cs≠[]:=λe=>by rw[e]at tK;simp at tK
 have jn:¬ vj s cs->((0:Int) <= -1↔vj s cs):=λh=>⟨λe=>by omega,λe=>absurd e h⟩;refine τ.go hC.f195 U ?_;refine θ<|γ U<|ε ?_;refine ν<|θ<|γ U<|gg (b:=[]) U U<|ε ?_;refine aE U (by simpa using bC)<|ao ?_;refine ν<|θ<|γ U<|cW U<|bQ U U<|ε ?_;refine aE U (by simp<;>omega)<|ao ?_;by_cases h8:8<s.length
 ·refine ν<|θ<|γ U<|cW U<|al U U<|W1 hC<|ε ?_;refine aD U (by simp<;>omega) ?_;refine θ<|γ U<|al U U<|aiv hC ke iV <| λh1 n1 e1=>γ U<|dj U U<|dj U U<|ea <| λh2 n2 fB a2 e2=>ct U U a2 (ff (Fe _) U (W0 _)) <| λh3 a3 b3=>γ U<|ε ?_;refine θ<|γ U<|ε ?_;refine aD U U ?_;refine ν<|θ<|γ U<|ε ?_;have e3:Ext h n h3 n2:=(e1.trans e2).aA b3 (by have:=e1.1;omega);refine aK<|ae (aiy ke hl hQ hC (b:=n1) (by have:=e1.1;omega) (λi hi E h' n' e=>⟨_,rfl,hQ i hi h' n' e⟩) (λoJ E h' n' e=>?_) _ 0 h3 n2 rfl (by omega) a3 e3 (λj hj h=>by omega)) ⟨rfl,rfl,rfl,trivial⟩;refine θ<|γ U<|ε (aj ⟨_,rfl,hQ _ (jn oJ) _ _ e⟩)
 ·refine ν<|θ<|γ U<|cW U<|al U U<|W1 hC<|ε ?_;refine aE U (by simp<;>omega)<|ao ?_;refine ν<|θ<|γ U<|HZ U <| λh1 n1 dZ a1 e1=>ε ?_;refine aK<|ae (aiz ke hl hQ hC (b:=n) (Γ _) tK iV (λi hi E h' n' e=>⟨_,rfl,hQ i hi h' n' e⟩) (λoJ E h' n' e=>?_) _ 0 h1 n1 (Γ _) (by omega) a1 (by omega) e1 (λj hj h=>by omega)) ⟨rfl,rfl,trivial⟩;refine θ<|γ U<|ε (aj ⟨_,rfl,hQ _ (jn oJ) _ _ e⟩)
theorem aiF(hC:Cd C){s cs:S}(hs:s≠[])(hl:s.length<1000000)(ke:∀c∈cs,c.toNat<128)(tK:4<=cs.length)(iV:cs.length<1000000)
 (hQ:∀b:Bool,(b=true↔vj s cs)->∀h' n',Ext h n h' n'->Q (.b b) h' n'):τ C (.f 118 [] []) [st s,st cs] h n Q:=by
 refine τ.go hC.f118 U ?_;refine θ<|γ U<|ε ?_;refine θ<|γ U<|γ U<|al U U<|aiE hC hs hl ke tK iV <| λi hi h1 n1 e1=>fU U U<|γ U<|ε (aj ⟨_,rfl,hQ _ (by simpa using hi) _ _ e1⟩)
theorem aiG(s:S):s.all pg=true↔¬ vj s [32,10,40,41,123,125]:=by
 rw[ru];constructor
 ·rintro h ⟨c,hc,x,hx,e⟩;have:=h c hc;simp only[pg,vN,Dj,dn]at this;simp only[fY,xA,or_false]at hx;rcases hx with rfl | rfl | rfl | rfl | rfl | rfl<;>simp at e<;>omega
 ·intro h c hc;simp only[pg,vN,Dj,dn];refine⟨⟨⟨⟨⟨?_,?_⟩,?_⟩,?_⟩,?_⟩,?_⟩<;>intro e<;>apply h
  ·exact⟨c,hc,32,by simp,by rw[e];rfl⟩
  ·exact⟨c,hc,10,by simp,by rw[e];rfl⟩
  ·exact⟨c,hc,40,by simp,by rw[e];rfl⟩
  ·exact⟨c,hc,41,by simp,by rw[e];rfl⟩
  ·exact⟨c,hc,123,by simp,by rw[e];rfl⟩
  ·exact⟨c,hc,125,by simp,by rw[e];rfl⟩
theorem aiH:∀c∈([32,10,40,41,123,125]:S),c.toNat<128:=by intro c hc;simp only[fY,xA,or_false]at hc;rcases hc with rfl | rfl | rfl | rfl | rfl | rfl<;>decide
theorem w44(hC:Cd C){s:S}(hl:s.length<10000000)(hQ:∀h' n',Ext h n h' n'->Q (.b (rW s)) h' n'):τ C (.f 44 [] []) [st s] h n Q:=by
 refine τ.go hC.f44 U ?_;refine θ<|γ U<|ε ?_;unfold rW at hQ;by_cases h1:s=[]
 ·subst h1;refine θ<|γ U<|rN (b:=[]) U U<|γ U<|σ U (by simp)<|σ U (by simp)<|σ U (by simp)<|bE U (by simp) U<|γ U<|σ U U<|σ U U<|σ U U<|bE U U U<|γ U<|ε (aj ⟨_,rfl,hQ _ _ (Ext.refl _ _)⟩)
 ·have h0:s.length≠0:=λe=>h1 (List.eq_nil_of_length_eq_zero e);by_cases h2:200<s.length
  ·refine θ<|γ U<|rN (b:=[]) U U<|γ U<|κ U (by simp[h1])<|γ U<|κ U (by simp[h1])<|cW U<|κ U (by simp[h1])<|oW U U<|cg U (by simp[h1]) U<|γ U<|σ U (by simp<;>omega)<|σ U (by simp<;>omega)<|σ U (by simp<;>omega)<|bE U (by simp<;>omega) U<|γ U<|ε (aj ⟨_,rfl,by simpa[h0,h2]using hQ _ _ (Ext.refl _ _)⟩)
  ·refine θ<|γ U<|rN (b:=[]) U U<|γ U<|κ U (by simp[h1])<|γ U<|κ U (by simp[h1])<|cW U<|κ U (by simp[h1])<|oW U U<|cg U (by simp[h1]) U<|γ U<|κ U (by simp<;>omega)<|γ U<|κ U (by simp<;>omega)<|al U U<|aiF hC (cs:=[32,10,40,41,123,125]) h1 (by omega) aiH (by simp) (by simp) <| λb hb h1 n1 e1=>κ U (by simp<;>omega)<|dR U<|cg U (by simp<;>omega) U<|γ U<|ε ?_;refine aj ⟨_,rfl,?_⟩;have:=hQ _ _ e1;have hp:=aiG s;cases fM:s.all pg with
   | true=>
    have:b=false:=by cases b with | false=>rfl | true=>exact absurd (hb.1 rfl) (hp.1 fM)
    subst this;simp only[h0,h2,fM]at *;simpa using ‹Q _ _ _›
   | false=>
    have:b=true:=hb.2 (Classical.byContradiction λh=>by have:=hp.2 h;rw[fM]at this;cases this);subst this;simp only[h0,h2,fM]at *;simpa using ‹Q _ _ _›
end
end Go.Ev.X
