/- A part of the proof. -/
import Derived.Test.YtpdbepbhlalldaaGreatDoorH
import Derived.Test.YtpdbepbhlalldaaGreatDoorG
import Derived.Test.YtpdbepbhlalldaaGreatDoorD
set_option linter.all false
namespace Go.Ev.X
open Go Go.Ev
attribute [local irreducible] WC WO WD SO τ
section
variable {C:Nat->Option bP}{h:Hf}{n:K}{Q:V->Hf->K->Prop}
theorem aiJ(hC:Cd C){s:S}(hQ:Q (.b (isNeg s)) h n):τ C (.f 325 [] []) [st s,st [45]] h n Q:=by
 refine τ.go hC.f325 U ?_;refine θ<|γ U<|ε ?_;cases s with
 | nil=>
  refine θ<|γ U<|cW U<|γ U<|cW U<|fU U U<|γ U<|σ U (by simp)<|σ U (by simp)<|σ U (by simp)<|σ U (by simp)<|σ U (by simp)<|σ U (by simp)<|bE U (by simp) U<|γ U<|ε (aj ⟨_,rfl,hQ⟩)
 | cons c l=>
  refine θ<|γ U<|cW U<|γ U<|cW U<|fU U U<|γ U<|κ U (by simp<;>omega)<|γ U<|κ U (by simp<;>omega)<|γ U<|κ U (by simp<;>omega)<|cW U<|κ U (by simp<;>omega)<|Ae U U U (by simp) (by simp)<|κ U (by simp<;>omega)<|γ U<|κ U (by simp<;>omega)<|gg U U<|cg U (by simp<;>omega) U<|γ U<|ε (aj ⟨_,rfl,?_⟩);have e:decide ((List.drop 0 (c::l)).take (([45]:S).length - 0)=[45])=isNeg (c::l):=by
   show decide ([c]=[45])=decide (c.toNat=45);have:([c]=[(45:UInt8)])↔c.toNat=45:=by
    constructor
    ·intro h;injection h with h;rw[h];rfl
    ·intro h;congr 1;exact UInt8.toNat_inj.1 h
   by_cases h:c.toNat=45
   ·rw[qo (this.2 h),qo h]
   ·rw[gj (λe=>h (this.1 e)),gj h]
  rw[e];exact hQ
theorem aiK(hC:Cd C){s:S}(hQ:Q (.u [st (body s),.b (isNeg s)]) h n):τ C (.f 294 [] []) [st s,st [45]] h n Q:=by
 refine τ.go hC.f294 U ?_;refine θ<|γ U<|γ U<|ε ?_;refine ν<|θ<|γ U<|γ U<|al U U<|aiJ hC<|dR U<|ε ?_;cases s with
 | nil=>
  refine aD U U ?_;refine θ<|γ U<|γ U<|γ U<|ε (aj ⟨_,rfl,hQ⟩)
 | cons c l=>
  by_cases hc:c.toNat=45
  ·have hb:body (c::l)=l:=by simp[body,hc]
   have hn:isNeg (c::l)=true:=by simp[isNeg,hc]
   rw[hb,hn]at hQ;refine aE U (by rw[hn];rfl)<|ao ?_;refine θ<|γ U<|γ U<|cW U<|Ae U U U (by simp) (by simp)<|γ U<|γ U<|ε (aj ⟨_,rfl,?_⟩);have:((c::l).drop ([45]:S).length).take ((c::l).length - ([45]:S).length)=l:=by simp
   rw[this];exact hQ
  ·have hb:body (c::l)=c::l:=by simp[body,hc]
   have hn:isNeg (c::l)=false:=by simp[isNeg,hc]
   rw[hb,hn]at hQ;refine aD U (by rw[hn];rfl) ?_;refine θ<|γ U<|γ U<|γ U<|ε (aj ⟨_,rfl,hQ⟩)
theorem W2(hC:Cd C){s:S}(hQ:Q (.u [st (body s),.b (isNeg s)]) h n):τ C (.f 246 [] []) [st s,st [45]] h n Q:=by refine τ.go hC.f246 U ?_;refine θ<|γ U<|γ U<|ε ?_;refine θ<|γ U<|γ U<|al U U<|aiK hC<|dj U U<|dj U U<|γ U<|γ U<|ε (aj ⟨_,rfl,hQ⟩)
theorem aiL{s:S}(hl:s.length<1000000){b:K}{h0:Hf}{n0:K}(eJ:n0.num<=b.num){Q1:Ex->Env->Hf->K->Prop}(JL:s.all hX=false->∀E h' n',Ext h0 n0 h' n'->Q1 .ret ((k2,.b false)::E) h' n')(Gk:s.all hX=true->∀E h' n',Ext h0 n0 h' n'->da [(k0,st s)] E->Q1 .normal E h' n'):
 ∀(m i:Nat) (h:Hf) (n:K),s.length - i<=m->i<=s.length->h b=some (.it s.length (bR s) i)->Ext h0 n0 h n->(∀j (hj:j<s.length),j<i->hX s[j]=true)->WC C Sx [(k0,st s),(k6,.p b 0)] h n (blk 0 Q1):=by
 intro m
 induction m with
 | zero=>
  intro i h n hm hi hb e jn;refine aQ ?_;refine θ<|BZ U hb (by omega)<|dj U U<|ε ?_;refine ν<|aE U U<|bW (Gk (ru.2 λc hc=>?_) _ _ _ e ⟨rfl,trivial⟩);obtain⟨j,hj,rfl⟩:=lB hc;exact jn j hj (by omega)
 | succ m ih=>
  intro i h n hm hi hb e jn;refine aQ ?_;by_cases ψ:i<s.length
  ·refine θ<|H4 U hb (by omega) <| λr w h1 R a1 b1=>dj U U<|ε ?_;refine ν<|aD U U<|ao<|aK ?_;have e1:=e.aA b1 eJ;have bad:hX s[i]=false->s.all hX=false:=λh=>by
    cases ha:s.all hX with
    | false=>rfl
    | true=>rw[ru.1 ha _ (dU ψ)]at h;cases h
   have oi:128<=s[i].toNat->hX s[i]=false:=λh=>by simp only[hX,Bool.and_eq_false_iff,dn];omega
   refine θ<|dj U U<|γ U<|ε ?_;by_cases aqh:r<48
   ·refine θ<|γ U<|aP U U<|γ U<|σ U (by simp<;>omega)<|σ U (by simp<;>omega)<|cg U (by simp<;>omega) U<|ε ?_;refine aD U (by simp<;>omega) ?_;refine θ<|γ U<|ε (aj (JL (bad ?_) _ _ _ e1));by_cases hb:s[i].toNat<128
    ·have:=(R.lo hb).1;simp only[hX,Bool.and_eq_false_iff,dn];omega
    ·exact oi (by omega)
   ·refine θ<|γ U<|aP U U<|γ U<|κ U (by simp<;>omega)<|γ U<|κ U (by simp<;>omega)<|cQ U U<|bE U (by simp<;>omega) U<|ε ?_;by_cases aqi:57<r
    ·refine aD U (by simp<;>omega) ?_;refine θ<|γ U<|ε (aj (JL (bad ?_) _ _ _ e1));by_cases hb:s[i].toNat<128
     ·have:=(R.lo hb).1;simp only[hX,Bool.and_eq_false_iff,dn];omega
     ·exact oi (by omega)
    ·refine aE U (by simp<;>omega)<|ao ?_;have hb:s[i].toNat<128:=by
      by_cases hb:s[i].toNat<128
      ·exact hb
      ·have:=(R.hi (by omega)).1;omega
     obtain⟨er,ew⟩:=R.lo hb;refine ae (ih (i+w) h1 n (by omega) R.le a1 e1 (λj hj Jv=>?_)) ⟨rfl,rfl,trivial⟩;by_cases qA:j<i
     ·exact jn j hj qA
     ·have:j=i:=by omega
      subst this;simp only[hX,bG,bT];omega
  ·refine θ<|BZ U hb (by omega)<|dj U U<|ε ?_;refine ν<|aE U U<|bW (Gk (ru.2 λc hc=>?_) _ _ _ e ⟨rfl,trivial⟩);obtain⟨j,hj,rfl⟩:=lB hc;exact jn j hj (by omega)
theorem IM(hC:Cd C){s:S}(hl:s.length<1000000)(hQ:∀h' n',Ext h n h' n'->Q (.b (!decide (s.length=0)&&s.all hX)) h' n'):τ C (.f 247 [] []) [st s] h n Q:=by
 refine τ.go hC.f247 U ?_;refine θ<|γ U<|ε ?_;refine ν<|θ<|γ U<|HZ U <| λh1 n1 dZ a1 e1=>ε ?_;refine aK<|ae (aiL hl (b:=n) (h0:=h) (n0:=n) (Γ _) (λha E h' n' e=>⟨_,rfl,by have:=hQ h' n' e;rw[ha,Bool.and_false]at this;exact this⟩) (λha E h' n' e hs=>dB hs ?_) _ 0 h1 n1 (Γ _) (by omega) a1 e1 (λj hj h=>by omega)) ⟨rfl,rfl,trivial⟩;refine θ<|γ U<|rN (b:=[]) U U<|γ U<|ε (aj ⟨_,rfl,?_⟩);have:=hQ h' n' e;rw[ha,Bool.and_true]at this;have e2:decide (s=[])=decide (s.length=0):=by cases s<;>simp
 rw[e2];exact this
theorem aiM{t:S}(h:0<t.length):qc t=t[0].toNat:=by
 cases t with
 | nil=>simp at h
 | cons=>rfl
theorem Ff(hC:Cd C){s:S}(hl:s.length<1000000)(hQ:∀h' n',Ext h n h' n'->Q (.i .i64 (gK s)) h' n'):τ C (.f 187 [] []) [st s] h n Q:=by
 refine τ.go hC.f187 U ?_;refine θ<|γ U<|ε ?_;refine θ<|γ U<|al U U<|W2 hC<|γ U<|dj U U<|dj U U<|γ U<|γ U<|ε ?_;have iL:=EJ s;have key:js s=((!decide ((body s).length=0)&&(body s).all hX)&&!(decide (qc (body s)=48)&&(isNeg s||decide (1<(body s).length)))):=by
  unfold js;have JM:decide (s=[45,48])=(isNeg s&&(decide ((body s).length=1)&&decide (qc (body s)=48))):=by
   match s with
   | []=>rfl
   | [c]=>simp[isNeg,body];intro h;simp[h]
   | [c,d]=>
    by_cases hc:c.toNat=45
    ·have:c=45:=UInt8.toNat_inj.1 hc;subst this;have hd:(d=48)↔d.toNat=48:=⟨λh=>by rw[h];rfl,λh=>UInt8.toNat_inj.1 h⟩;simp[isNeg,body,qc,hd]
    ·have:c≠45:=λe=>hc (by rw[e];rfl);simp[isNeg,hc,this]
   | c::d::e::l=>
    have:1<(body (c::d::e::l)).length:=by simp only[body];split<;>simp
    have h2:¬ (body (c::d::e::l)).length=1:=by omega
    simp[h2]
  rw[JM];cases hs:body s with
  | nil=>simp
  | cons x l=>
   by_cases h1:x.toNat=48<;>cases isNeg s<;>by_cases h3:l.length=0<;>cases ((x::l).all hX)<;>simp[qc,h1,h3]<;>first | omega | skip
 have bC:gK s=if (!js s)=true then 1 else if 120<(body s).length then 4 else 0:=by unfold gK;cases js s<;>rfl
 have zm:js s=false->∀h' n',Ext h n h' n'->Q (.i .i64 1) h' n':=λhf h' n' e=>by have:=hQ h' n' e;rw[bC,hf]at this;exact this
 have Fg:js s=true->∀h' n',Ext h n h' n'->Q (.i .i64 (if decide ((120:Int)<((body s).length:Nat)) then 4 else 0)) h' n':=λhf h' n' e=>by
  have:=hQ h' n' e;rw[bC,hf]at this;have e3:((120:Int)<((body s).length:Nat))↔120<(body s).length:=by omega
  simp only[bT,e3];exact this
 by_cases hd:(!decide ((body s).length=0)&&(body s).all hX)=true
 ·have h0:(body s).length≠0:=by simp at hd;exact λe=>hd.1 (List.eq_nil_of_length_eq_zero e)
  have Za:0<(body s).length:=by omega
  have hh:qc (body s)=(body s)[0].toNat:=aiM _;rw[hd,Bp]at key;by_cases MD:(body s)[0].toNat=48
  ·rw[hh,qo MD,Bp]at key;by_cases hn:isNeg s=true
   ·rw[hn,Bool.true_or]at key;refine ν<|θ<|γ U<|al U U<|IM hC (by omega) <| λh1 n1 x1=>dR U<|γ U<|κ U (congrArg not hd)<|γ U<|κ U (congrArg not hd)<|mq U U Za<|κ U (congrArg not hd)<|bQ U U<|κ U (congrArg not hd)<|γ U<|κ U (by simp<;>omega)<|γ U<|κ U (by simp<;>omega)<|γ U<|σ U (hn)<|σ U (hn)<|σ U (hn)<|κ U (by simp<;>omega)<|cg U (hn) U<|κ U (congrArg not hd)<|cg U (by simp<;>omega) U<|bE U (congrArg not hd) U<|ε ?_;refine aD U U ?_;refine θ<|γ U<|ε (aj ⟨_,rfl,zm key _ _ x1⟩)
   ·simp only[Dl]at hn;rw[hn,Bool.false_or]at key;refine ν<|θ<|γ U<|al U U<|IM hC (by omega) <| λh1 n1 x1=>dR U<|γ U<|κ U (congrArg not hd)<|γ U<|κ U (congrArg not hd)<|mq U U Za<|κ U (congrArg not hd)<|bQ U U<|κ U (congrArg not hd)<|γ U<|κ U (by simp<;>omega)<|γ U<|κ U (by simp<;>omega)<|γ U<|κ U (hn)<|γ U<|κ U (hn)<|cW U<|κ U (hn)<|cQ U U<|κ U (by simp<;>omega)<|bE U (hn) U<|κ U (congrArg not hd)<|cg U (by simp<;>omega) U<|bE U (congrArg not hd) U<|ε ?_;by_cases lA:1<(body s).length
    ·rw[qo lA]at key;refine aD U (by simp<;>omega) ?_;refine θ<|γ U<|ε (aj ⟨_,rfl,zm key _ _ x1⟩)
    ·rw[gj lA]at key;refine aE U (by simp<;>omega)<|ao ?_;refine θ<|γ U<|cW U<|cQ U U<|al U U<|qf hC.f248<|γ U<|ε (aj ⟨_,rfl,Fg key _ _ x1⟩)
  ·rw[hh,gj MD,Df]at key;refine ν<|θ<|γ U<|al U U<|IM hC (by omega) <| λh1 n1 x1=>dR U<|γ U<|κ U (congrArg not hd)<|γ U<|κ U (congrArg not hd)<|mq U U Za<|κ U (congrArg not hd)<|bQ U U<|κ U (congrArg not hd)<|γ U<|σ U (by simp<;>omega)<|σ U (by simp<;>omega)<|eX U<|eX U<|eX U<|σ U (by simp<;>omega)<|κ U (congrArg not hd)<|bE U (by simp<;>omega) U<|bE U (congrArg not hd) U<|ε ?_;refine aE U (by simp<;>omega)<|ao ?_;refine θ<|γ U<|cW U<|cQ U U<|al U U<|qf hC.f248<|γ U<|ε (aj ⟨_,rfl,Fg key _ _ x1⟩)
 ·simp only[Dl]at hd;rw[hd,Df]at key;refine ν<|θ<|γ U<|al U U<|IM hC (by omega) <| λh1 n1 x1=>dR U<|γ U<|σ U (congrArg not hd)<|σ U (congrArg not hd)<|σ U (congrArg not hd)<|σ U (congrArg not hd)<|eX U<|eX U<|eX U<|eX U<|eX U<|eX U<|σ U (congrArg not hd)<|cg U (congrArg not hd) U<|ε ?_;refine aD U U ?_;refine θ<|γ U<|ε (aj ⟨_,rfl,zm key _ _ x1⟩)
theorem No{s:S}:iK s=decide (0<=bI 47 s):=by
 have:iK s=true↔0<=bI 47 s:=by rw[LM];simp[iK]
 cases h:iK s with
 | true=>exact(qo (this.1 h)).symm
 | false=>exact(gj λe=>by rw[this.2 e]at h;cases h).symm
theorem W3(hC:Cd C){s:S}(hQ:Q (.i .i64 (bI 47 s)) h n):τ C (.f 312 [] []) [st s,st [47]] h n Q:=by
 refine τ.go hC.f312 U ?_;refine θ<|γ U<|ε ?_;refine θ<|γ U<|cW U<|γ U<|ε ?_;refine ν<|aK ?_;refine θ<|γ U<|bQ U U<|γ U<|κ U (rfl)<|γ U<|κ U (rfl)<|γ U<|κ U (rfl)<|gg U U<|bE U (rfl) U<|γ U<|ε ?_;by_cases h1:s=[47]
 ·refine aD U (by rw[h1];rfl) ?_;subst h1;refine θ<|γ U<|ε (aj ⟨_,rfl,hQ⟩)
 ·refine aE U (gj (Ne.symm h1)) ?_;refine θ<|γ U<|bQ U U<|γ U<|ε ?_;refine aD U U ?_;refine θ<|γ U<|γ U<|mq U U (by simp)<|al U U<|WY hC (c:=47) (by omega)<|γ U<|ε (aj ⟨_,rfl,hQ⟩)
theorem aiN(hC:Cd C){s:S}(hQ:Q (.i .i64 (bI 47 s)) h n):τ C (.f 295 [] []) [st s,st [47]] h n Q:=by refine τ.go hC.f295 U ?_;refine θ<|γ U<|ε ?_;refine θ<|γ U<|γ U<|al U U<|W3 hC<|γ U<|ε (aj ⟨_,rfl,hQ⟩)
theorem aiO(hC:Cd C){s:S}(hQ:Q (.b (iK s)) h n):τ C (.f 249 [] []) [st s,st [47]] h n Q:=by refine τ.go hC.f249 U ?_;refine θ<|γ U<|ε ?_;refine θ<|γ U<|γ U<|al U U<|aiN hC<|fU U U<|γ U<|ε (aj ⟨_,rfl,by rw[No]at hQ;exact hQ⟩)
def qO(s:S):V:=match cutAt s with
 | some (p,q)=>.u [st p,st q,.b true]
 | none=>.u [st s,st [],.b false]
theorem W4(hC:Cd C){s:S}(hl:s.length<1000000)(hQ:Q (qO s) h n):τ C (.f 277 [] []) [st s,st [47]] h n Q:=by
 refine τ.go hC.f277 U ?_;refine θ<|γ U<|γ U<|γ U<|ε ?_;refine ν<|θ<|γ U<|γ U<|al U U<|W3 hC<|γ U<|ε ?_;by_cases hb:0<=bI 47 s
 ·obtain⟨j,hj,ψ,wS,jn⟩:=ad0 hb;have lK:cutAt s=some (s.take j,s.drop (j+1)):=MA ψ (by
   cases hh:iK (s.take j) with
   | false=>rfl
   | true=>
    obtain⟨x,hx,e⟩:=LM.1 (of_decide_eq_true (No (s:=s.take j)▸hh));obtain⟨k,hk,rfl⟩:=lB hx;rw[List.getElem_take]at e;simp only[qn]at hk;exact absurd e (jn k (by omega) (by omega))) wS
  unfold qO at hQ;rw[lK]at hQ;rw[hj];refine θ<|γ U<|fU U U<|ε ?_;refine aD U (by simp) ?_;have e1:List.take (j - 0) (List.drop 0 s)=s.take j:=by simp
  have e2:List.take (s.length - (j+1)) (List.drop (j+1) s)=s.drop (j+1):=pF (by simp);refine eS<|aL U<|aL U<|Ek U U U (by omega) (by omega)<|aL U<|aL U<|aL U<|ac2 U<|Eo U U ((show((j:Nat):Int)+(([47]:S).length:Nat)=((j+1:Nat):Int) by simp)) ⟨by omega,by omega⟩<|Ek U U U (by omega) (by omega)<|aL U<|aL U<|aL U<|dQ (by simp[AG,mn,pv,Nat.testBit]) ?_;refine aj ⟨_,rfl,?_⟩;rw[e1,e2];exact hQ
 ·have lK:cutAt s=none:=Mz (by rw[No];simpa using hb);unfold qO at hQ;rw[lK]at hQ;refine θ<|γ U<|fU U U<|ε ?_;refine aE U (by simpa using hb)<|ao ?_;refine θ<|γ U<|γ U<|γ U<|γ U<|ε (aj ⟨_,rfl,hQ⟩)
theorem W5(hC:Cd C){s:S}(hl:s.length<1000000)(hQ:Q (qO s) h n):τ C (.f 221 [] []) [st s,st [47]] h n Q:=by
 refine τ.go hC.f221 U ?_;refine θ<|γ U<|γ U<|γ U<|ε ?_;unfold qO at hQ;cases hc:cutAt s with
 | none=>
  rw[hc]at hQ;have hv:qO s=.u [st s,st [],.b false]:=by unfold qO;rw[hc]
  have key:∀{Q:V->Hf->K->Prop},Q (.u [st s,st [],.b false]) h n->τ C (.f 277 [] []) [st s,st [47]] h n Q:=λhQ=>W4 hC hl (by rw[hv];exact hQ);refine θ<|γ U<|γ U<|al U U<|key<|dj U U<|dj U U<|dj U U<|γ U<|γ U<|γ U<|ε (aj ⟨_,rfl,hQ⟩)
 | some pq=>
  obtain⟨p,q⟩:=pq;rw[hc]at hQ;have hv:qO s=.u [st p,st q,.b true]:=by unfold qO;rw[hc]
  have key:∀{Q:V->Hf->K->Prop},Q (.u [st p,st q,.b true]) h n->τ C (.f 277 [] []) [st s,st [47]] h n Q:=λhQ=>W4 hC hl (by rw[hv];exact hQ);refine θ<|γ U<|γ U<|al U U<|key<|dj U U<|dj U U<|dj U U<|γ U<|γ U<|γ U<|ε (aj ⟨_,rfl,hQ⟩)
end
section
variable {C:Nat->Option bP}{h:Hf}{n:K}{Q:V->Hf->K->Prop}
theorem fA{v:V}(h:v.one=true):bN [v]=true:=by simp only[bN,h];rfl
theorem Fh(hC:Cd C){v:V}{l:List Nat}(hv:bj h n .u32 v l)(hlen:l.length<1000000)(hQ:∀h' n',Ext h n h' n'->Q (.b (decide (l.length=0))) h' n'):τ C (.f 252 [] []) [.a [v]] h n Q:=by refine τ.go hC.f252 U ?_;refine θ<|eL U U (fA hv.one) <| λh1 n1 dZ a1 e1=>γ U<|ε ?_;refine θ<|Ω U<|χ U (dV a1 rfl _)<|aG U (hv.ext e1)<|bQ U U<|γ U<|ε (aj ⟨_,rfl,?_⟩);have:=hQ _ _ e1;rw[show decide (((l.length:Nat):Int)=0)=decide (l.length=0) from by by_cases h:l.length=0<;>simp[h]];exact this
theorem aiP(hC:Cd C){v:V}{l:List Nat}(hv:bj h n .u32 v l)(hlen:l.length<1000000)(hQ:∀h' n',Ext h n h' n'->Q (.b (decide (l=[1]))) h' n'):τ C (.f 254 [] []) [.a [v]] h n Q:=by
 refine τ.go hC.f254 U ?_;refine θ<|eL U U (fA hv.one) <| λh1 n1 dZ a1 e1=>γ U<|ε ?_;have ji:=hv.ext e1;by_cases h1:l.length=1
 ·have h0:0<l.length:=by omega
  refine θ<|Ω U<|χ U (dV a1 rfl _)<|aG U ji<|bQ U U<|γ U<|κ U (by simp[h1])<|Ω U<|κ U (by simp[h1])<|χ U (dV a1 rfl _)<|κ U (by simp[h1])<|bh U U ji h0<|κ U (by simp[h1])<|χ U (ji.get h0 _)<|κ U (by simp[h1])<|bQ U U<|cg U (by simp[h1]) U<|γ U<|ε (aj ⟨_,rfl,?_⟩);have:=hQ _ _ e1;rw[show decide (((l[0]:Nat):Int)=1)=decide (l=[1]) from by
   match l,h1 with
   | [x],_=>by_cases h:x=1<;>simp[h];omega]
  exact this
 ·refine θ<|Ω U<|χ U (dV a1 rfl _)<|aG U ji<|bQ U U<|γ U<|σ U (by simp<;>omega)<|σ U (by simp<;>omega)<|σ U (by simp<;>omega)<|σ U (by simp<;>omega)<|σ U (by simp<;>omega)<|bE U (by simp<;>omega) U<|γ U<|ε (aj ⟨_,rfl,?_⟩);have:=hQ _ _ e1;rw[show decide (l=[1])=false from gj λe=>h1 (by rw[e];rfl)]at this;exact this
theorem W6(hC:Cd C){a b:Nat}(hQ:Q (.i .i64 (gJ a b)) h n):τ C (.f 347 [] []) [.i .i64 (a:Nat),.i .i64 (b:Nat)] h n Q:=by
 refine τ.go hC.f347 U ?_;refine θ<|γ U<|ε ?_;refine ν<|θ<|γ U<|γ U<|aP U U<|ε ?_;unfold gJ at hQ;by_cases h1:a<b
 ·rw[az h1]at hQ;refine aD U (by simp<;>omega) ?_;refine θ<|γ U<|ε (aj ⟨_,rfl,hQ⟩)
 ·rw[ai h1]at hQ;refine aE U (by simp<;>omega)<|ao ?_;refine ν<|θ<|γ U<|γ U<|cQ U U<|ε ?_;by_cases h2:b<a
  ·rw[az h2]at hQ;refine aD U (by simp<;>omega) ?_;refine θ<|γ U<|ε (aj ⟨_,rfl,hQ⟩)
  ·rw[ai h2]at hQ;refine aE U (by simp<;>omega)<|ao ?_;refine θ<|γ U<|ε (aj ⟨_,rfl,hQ⟩)
theorem Np(hC:Cd C){v:V}{l:List Nat}{b:K}(hv:bj h n .u32 v l)(hlen:l.length<1000000)(hb:Cl h n b [.i .u32 0] 342)(hQ:Q (.b (decide (0<l.length/\l.getD (l.length - 1) 1=0))) h n):τ C (.f 327 [] [.p b 0]) [v] h n Q:=by
 refine τ.go hC.f327 U ?_;refine θ<|γ U<|ε ?_;by_cases h1:0<l.length
 ·have ψ:l.length - 1<l.length:=by omega
  have g1:=hv.get ψ 1;have g2:cD h false 1 (.p b 0)=some (.i .u32 0):=hb.ld U 1;refine eS<|aL U<|Ed U hv<|wA U U<|aL U<|bF U (by simp<;>omega)<|aL U<|bF U (by simp<;>omega)<|aL U<|bF U (by simp<;>omega)<|Ed U hv<|bF U (by simp<;>omega)<|B0 U U ((show((l.length:Nat):Int) - 1=((l.length - 1:Nat):Int) by omega)) ⟨by omega,by omega⟩<|bF U (by simp<;>omega)<|et U U hv ψ<|bF U (by simp<;>omega)<|bc U g1 U (by simp[dH,iC,dD,jW])<|bF U (by simp<;>omega)<|bc U g2 U (by simp[dH,iC,dD,jW])<|bF U (by simp<;>omega)<|Ad U U<|BV U (by simp<;>omega) U<|aL U<|dQ (by simp[AG,mn,pv,Nat.testBit]) ?_;refine aj ⟨_,rfl,?_⟩;have e:l.getD (l.length - 1) 1=l[l.length - 1]:=by rw[fF,gP ψ];rfl
  rw[e]at hQ;rw[show decide (((l[l.length - 1]:Nat):Int)=0)=decide (0<l.length/\l[l.length - 1]=0) from by by_cases h:l[l.length - 1]=0<;>simp[h]<;>omega]
  exact hQ
 ·have e:decide (0<l.length/\l.getD (l.length - 1) 1=0)=false:=gj λe=>h1 e.1;rw[e]at hQ;refine eS<|aL U<|Ed U hv<|wA U U<|aL U<|fc U (gj (show ¬ (0:Int)<((l.length:Nat):Int) by omega))<|fc U (gj (show ¬ (0:Int)<((l.length:Nat):Int) by omega))<|fc U (gj (show ¬ (0:Int)<((l.length:Nat):Int) by omega))<|fc U (gj (show ¬ (0:Int)<((l.length:Nat):Int) by omega))<|fc U (gj (show ¬ (0:Int)<((l.length:Nat):Int) by omega))<|fc U (gj (show ¬ (0:Int)<((l.length:Nat):Int) by omega))<|fc U (gj (show ¬ (0:Int)<((l.length:Nat):Int) by omega))<|fc U (gj (show ¬ (0:Int)<((l.length:Nat):Int) by omega))<|rO U (gj (show ¬ (0:Int)<((l.length:Nat):Int) by omega)) U<|aL U<|dQ (by simp[AG,mn,pv,Nat.testBit]) ?_;exact aj ⟨_,rfl,hQ⟩
theorem aiQ(hC:Cd C){v0:V}{l:List Nat}{b:K}(hlen:l.length<1000000){Q1:Ex->Env->Hf->K->Prop}(hb:Cl h n b [.i .u32 0] 342){n0:K}(tM:n0.num<=n.num)
 (hQ:∀v' E',bj h n0 .u32 v' (dE l)->v'.blk=v0.blk->(v0=.ns->v'=.ns)->da [(k0,v')] E'->Q1 .normal E' h n):
 ∀(m:Nat) (v:V),m<=l.length->bj h n0 .u32 v (l.take m)->v.blk=v0.blk->(v0=.ns->v=.ns)->dE l=dE (l.take m)->WC C SA [(k0,v),(k4,.f 327 [] [.p b 0])] h n (blk 0 Q1):=by
 intro m
 induction m with
 | zero=>
  intro v hm hv Gm Bb hs;have hc:∀{Q:V->Hf->K->Prop},Q (.b false) h n->τ C (.f 327 [] [.p b 0]) [v] h n Q:=λhQ=>Np hC (hv.up tM) (by simp<;>omega) hb (by simpa using hQ);refine aQ ?_;refine ν<|θ<|γ U<|γ U<|al U U<|hc<|ε ?_;refine aE U U<|bW (hQ v _ (by rw[hs];simpa[dE]using hv) Gm Bb ⟨rfl,trivial⟩)
 | succ m ih=>
  intro v hm hv Gm Bb hs;have ψ:m<l.length:=by omega
  have u9:(l.take (m+1)).length=m+1:=by simp<;>omega
  have hgd:(l.take (m+1)).getD ((l.take (m+1)).length - 1) 1=l[m]:=by rw[u9,Nat.add_sub_cancel,fF,gP (by rw[u9];omega),List.getElem_take];rfl
  refine aQ ?_;by_cases h0:l[m]=0
  ·have hc:∀{Q:V->Hf->K->Prop},Q (.b true) h n->τ C (.f 327 [] [.p b 0]) [v] h n Q:=λhQ=>Np hC (hv.up tM) (by omega) hb (by rw[hgd,u9];simpa[h0]using hQ);refine ν<|θ<|γ U<|γ U<|al U U<|hc<|ε ?_;refine aD U U<|ao ?_;refine aK<|aR<|γ U<|γ U<|aG U hv<|kQ U U ((show(((l.take (m+1)).length:Nat):Int) - 1=((m:Nat):Int) by omega)) ⟨by omega,by omega⟩<|HX U hv U U (by omega) ((by omega)) <| λv2 i2 l2=>γ U<|ε ?_;refine ae (ih v2 (by omega) ?_ (by rw[l2.2.1,Gm]) (λe=>l2.2.2 (Bb e)) (by rw[hs,Wx ψ h0])) ⟨rfl,rfl,trivial⟩;have:=bj.sub i2 (by omega);rw[jS,rA,List.take_take,xD (by omega)]at this;exact this
  ·have hc:∀{Q:V->Hf->K->Prop},Q (.b false) h n->τ C (.f 327 [] [.p b 0]) [v] h n Q:=λhQ=>Np hC (hv.up tM) (by omega) hb (by rw[hgd,u9];simpa[h0]using hQ);refine ν<|θ<|γ U<|γ U<|al U U<|hc<|ε ?_;refine aE U U<|bW (hQ v _ (by rw[hs,Wy ψ h0];exact hv) Gm Bb ⟨rfl,trivial⟩)
theorem aiS(hC:Cd C){v:V}{l:List Nat}{n0:K}(hv:bj h n0 .u32 v l)(hlen:l.length<1000000)(hQ:∀v',bj h n0 .u32 v' l->v'.blk=v.blk->(v=.ns->v'=.ns)->Q v' h n):τ C (.f 328 [] []) [v] h n Q:=by refine τ.go hC.f328 U ?_;refine θ<|γ U<|ε ?_;refine θ<|γ U<|γ U<|aG U hv<|γ U<|aG U hv<|adl U hv U U <| λv2 i2 l2=>γ U<|ε (aj ⟨_,rfl,hQ v2 i2 l2.2.1 l2.2.2⟩)
theorem yR(hC:Cd C){v:V}{l:List Nat}{n0:K}(tM:n0.num<=n.num)(hv:bj h n0 .u32 v l)(hlen:l.length<1000000)(hQ:∀v' h' n',Ext h n h' n'->bj h' n0 .u32 v' (dE l)->v'.blk=v.blk->(v=.ns->v'=.ns)->Q v' h' n'):τ C (.f 298 [] []) [v] h n Q:=by refine τ.go hC.f298 U ?_;refine θ<|γ U<|ε ?_;refine θ<|ea <| λh1 n1 dZ a1 e1=>ε ?_;have ji:bj h1 n0 .u32 v l:=hv.at_ (e1.trans' (Γ _) (λ_ _=>rfl) |> λx=>⟨by have:=x.1;omega,λk hk=>e1.2 k (by omega)⟩);refine θ<|BW U U<|γ U<|ε ?_;refine ν<|aK<|ae (aiQ hC hlen (b:=n) ⟨by omega,a1⟩ (n0:=n0) (by omega) (λv' E' i hb hn hE=>dB hE ?_) l.length v (Γ _) (by rw[fO];exact ji) U id (by rw[fO])) ⟨rfl,rfl,trivial⟩;have sY:=AA l;refine θ<|γ U<|al U U<|aiS hC i (by omega) <| λv2 i2 fM fB=>γ U<|ε (aj ⟨_,rfl,hQ v2 _ _ e1 i2 (by rw[fM,hb]) (λe=>fB (hn e))⟩)
theorem Ct(hC:Cd C){v:V}{l:List Nat}{i:Nat}(hv:bj h n .u32 v l)(hs:Sm 1000000000 l)(hlen:l.length<1000000)(hQ:∀h' n',Ext h n h' n'->Q (.i .u64 (l.getD i 0:Nat)) h' n'):τ C (.f 331 [] []) [.a [v],.i .i64 (i:Nat)] h n Q:=by
 refine τ.go hC.f331 U ?_;refine θ<|eL U U (fA hv.one) <| λh1 n1 dZ a1 e1=>γ U<|ε ?_;have ji:=hv.ext e1;refine ν<|θ<|γ U<|Ω U<|χ U (dV a1 rfl _)<|aG U ji<|aP U U<|ε ?_;by_cases hi:i<l.length
 ·refine aD U (by simp<;>omega) ?_;have ψ:=hs.get hi;have e:=jt hi;rw[e]at hQ;refine θ<|Ω U<|χ U (dV a1 rfl _)<|γ U<|bh U U ji hi<|χ U (ji.get hi _)<|pR U ⟨by omega,by omega⟩<|γ U<|ε (aj ⟨_,rfl,hQ _ _ e1⟩)
 ·refine aE U (by simp<;>omega)<|ao ?_;have e:l.getD i 0=0:=by rw[fF,xr (by omega)];rfl
  rw[e]at hQ;refine θ<|γ U<|ε (aj ⟨_,rfl,hQ _ _ e1⟩)
end
section
variable {C:Nat->Option bP}{h:Hf}{n:K}{Q:V->Hf->K->Prop}
abbrev Bg:Nat:=1000000000
theorem bj.toI{k:IntKind}{v:V}{l:List Nat}(a:bj h n k v l):gh h n k v (l.map λ(x:Nat)=>(x:Int)):=by have:ρ h n 1 v l.length (nC k l):=a;rw[RT]at this;unfold gh;rw[lC];exact this
theorem Nq(hC:Cd C){t:V}{ik:IntKind}{l:List Nat}(ht:bj h n ik t l)(hlen:l.length<1000000)
 (hQ:∀b e h' n',Ext h n h' n'->h' b=some (.c [t] e 0)->b.num<n'.num->n.num<=b.num->Iter C (.f 349 [] [.p b 0]) (λh n=>b.num<n.num/\h b=some (.c [t] e 0)/\bj h n ik t l) (Au (λj=>.i ik (l.getD j 0:Nat)) l.length)->Q (.f 349 [] [.p b 0]) h' n'):τ C (.f 330 [] []) [t] h n Q:=by
 refine agl hC ht.toI (by simpa using hlen) (λj=>.i ik (l.getD j 0:Nat)) (λi hi=>by rw[lC]at hi;simp[fF,hi]) ?_;intro b e h' n' e1 a1 h1 h2 it;refine hQ b e h' n' e1 a1 h1 h2 ?_;have:(λ(h:Hf) (n:K)=>b.num<n.num/\h b=some (.c [t] e 0)/\bj h n ik t l) = λh n=>b.num<n.num/\h b=some (.c [t] e 0)/\gh h n ik t (l.map λ(x:Nat)=>(x:Int)):=by funext h n;unfold bj gh;rw[lC,RT]
 rw[this];rw[lC]at it;exact it
theorem W7(hC:Cd C){va vb:V}{a b:List Nat}(fX:a.length<1000)(gG:b.length<1000)(ha:eK Bg a)(hb:eK Bg b)(ia:bj h n .u32 va a)(ib:bj h n .u32 vb b)(hQ:∀h' n',Ext h n h' n'->Q (.i .i64 (gJ (val Bg a) (val Bg b))) h' n'):τ C (.f 319 [] []) [.a [va],.a [vb]] h n Q:=by
 refine τ.go hC.f319 U ?_;refine θ<|eL U U (fA ia.one) <| λh1 n1 dZ a1 e1=>eL U U (fA ib.one) <| λh2 n2 fB a2 e2=>ea <| λh3 n3 lz a3 e3=>ε ?_;have x3:=(e1.trans e2).trans e3;have c2:Cl h3 n3 n [va] 297:=Cl.ext (Cl.ext ⟨by omega,a1⟩ e2) e3;have c3:Cl h3 n3 n1 [vb] 297:=Cl.ext ⟨by omega,a2⟩ e3;have c4:Cl h3 n3 n2 [.i .i64 0] 3:=⟨by omega,a3⟩;have qM:=ia.ext x3;have qN:=ib.ext x3;refine ν<|θ<|Ω U<|χ U (c2.ld U _)<|aG U qM<|Ω U<|χ U (c3.ld U _)<|aG U qN<|fT U U<|ε ?_;by_cases hl:a.length=b.length
 ·refine aE U (by simp[hl])<|ao ?_;refine ν<|θ<|Ω U<|χ U (c2.ld U _)<|al U U<|Nq hC qM (by omega) ?_;intro bb e h4 n4 e4 a4 rf fM it;refine ε ?_;have y4:=e4.1;let I:Nat->Hf->K->Prop:=λj h' n'=>Ext h3 n3 h' n'/\(bb.num<n'.num/\h' bb=some (.c [va] e 0))/\a.drop (a.length - j)=b.drop (a.length - j);let D:Ex->Hf->K->Prop:=λex h' n'=>ex=.ret/\∃h1,Ext h3 n3 h1 n'/\h' n2=some (.c [.i .i64 (gJ (val Bg a) (val Bg b))] 3 0)/\df n2 h1 h';refine aK<|BY U it I D ?_ ?_ ?_ ?_ ?_ ?_ ?_ ?_
  ·rintro j h1 n1 h' n' ⟨g1,⟨g2,g3⟩,g5⟩ ex;exact⟨g1.trans ex,⟨fN g2 ex.1,by rw[ex.2 _ g2];exact g3⟩,g5⟩
  ·rintro j h1 n1 h' ⟨g1,⟨g2,g3⟩,g5⟩ bt;exact⟨g1.aA bt (by omega),⟨g2,by rw[bt _ (by omega)];exact g3⟩,g5⟩
  ·rintro j h1 n1 ⟨g1,g2,_⟩;exact⟨g2.1,g2.2,qM.ext g1⟩
  ·intro j hj;rw[wO];rfl
  ·intro h' bt;have O0:n4.succ.num=n4.num+1:=K.fH n4;exact⟨(e4.aA bt (by omega)).succ,⟨by omega,by rw[bt _ (by omega)];exact a4⟩,by rw[rA,nH,hl,nH]⟩
  ·rintro j hj h5 n5 E1 pz ⟨g1,⟨g2,g3⟩,g5⟩ j6;have fb:j<a.length:=by rw[tG]at hj;exact hj
   rw[wO]at j6;simp only[mS,rq]at j6;subst j6;have hi:a.length - 1 - j<a.length:=by omega
   have JN:a.length - 1 - j<b.length:=by omega
   rw[show a.length - j=(a.length - 1 - j)+1 by omega]at g5;have tF:a.length - (j+1)=a.length - 1 - j:=by omega
   generalize a.length - 1 - j=i at*;rw[jt hi];refine θ<|γ U<|ε<|aR<|γ U<|ε ⟨rfl,rfl,λh7 b7=>?_⟩;have x7:Ext h3 n3 h7 n5:=g1.aA b7 (by omega);have C5:=qN.ext x7;have d3:=c3.ext x7;have d4:=c4.ext x7;have q1:a[i]<Bg:=ha.1.get hi;have q2:b[i]<Bg:=hb.1.get JN;simp only[Bg]at q1 q2;refine aK<|θ<|γ U<|Ω U<|χ U (d3.ld U _)<|γ U<|bh U U C5 JN<|χ U (C5.get JN _)<|fT U U<|ε ?_;by_cases he:a[i]=b[i]
   ·refine aE U (by simp<;>omega)<|ao ⟨pz,rfl,x7,⟨g2,by rw[b7 _ (by omega)];exact g3⟩,?_⟩;rw[tF,gi hi,gi JN,g5,he]
   ·refine aD U (by simp<;>omega) ?_;have Nr:=Wb ha.1 hb.1 hl hi g5 he;refine θ<|γ U<|pR U ⟨by omega,by omega⟩<|Ω U<|χ U (d3.ld U _)<|γ U<|bh U U C5 JN<|χ U (C5.get JN _)<|pR U ⟨by omega,by omega⟩<|al U U<|W6 hC<|ct U U d4.2 U <| λh8 a8 b8=>ε ?_;exact aj ⟨pz,b8 _ (by omega),rfl,h7,x7,by rw[Nr];exact a8,b8⟩
  ·rintro h' n' pz ⟨g1,⟨g2,g3⟩,g5⟩;rw[tG,qp,jS,jS]at g5;subst g5;refine θ<|ct U U ((c4.ext g1).2) U <| λh7 a7 b7=>ε ?_;refine aj ⟨_,kP rfl (dV a7 rfl _),?_⟩;have:=hQ _ _ ((x3.trans g1).aA b7 (by omega));rw[Wc]at this;exact this
  ·rintro ex h' n' qG pz ⟨rfl,nu,g1,g2,g3⟩ bt;refine⟨_,kP rfl (dV (show qG n2=_ by rw[bt _ (by omega)];exact g2) U _),?_⟩;exact hQ _ _ (((x3.trans g1).aA g3 (by omega)).aA bt (by omega))
 ·have Nr:=Wa ha hb (by decide) hl;refine aD U (by simp<;>omega) ?_;refine θ<|Ω U<|χ U (c2.ld U _)<|aG U qM<|Ω U<|χ U (c3.ld U _)<|aG U qN<|al U U<|W6 hC<|ct U U c4.2 U <| λh8 a8 b8=>ε ?_;refine aj ⟨_,kP rfl (dV a8 rfl _),?_⟩;rw[←Nr];exact hQ _ _ (x3.aA b8 (by omega))
theorem mB{v:V}(h:cu n v=true):cu n (.a [v])=true:=by simp[cu,gZ,h]
theorem mC{v:V}(h:dH v v=true):dH (.a [v]) (.a [v])=true:=by simp[dH,lE,h]
theorem aiT{α:Type}{l:List α}{i:Nat}{x:α}:(l.set i x).take i=l.take i:=by
 apply Dk
 ·simp
 ·intro j h1 h2;simp only[qn,mL]at h1;simp only[List.getElem_take];rw[Bo (by omega)]
theorem W8{α:Type}{l:List α}{i:Nat}{x:α}:(l.set i x).drop (i+1)=l.drop (i+1):=by
 apply Dk
 ·simp
 ·intro j h1 h2;simp only[List.getElem_drop];rw[Bo (by omega)]
section
variable {h0:Hf}{n0 b3 bo:K}{x2 x4 vb:V}{a b:List Nat}
structure Ls(h0:Hf)(n0:K)(h:Hf)(n:K)(b3 bo:K)(vb:V)(L:Nat)(out:List Nat):Prop where
 ext:Ext h0 n0 h n
 c3:Cl h n b3 [vb] 297
 co:Cl h n bo (nC .u32 out) 342
 lo:n0.num<=bo.num
 CZ:b3.num≠bo.num
 len:out.length=L
theorem aiU(hC:Cd C)(fX:a.length<1000)(gG:b.length<1000)(ha:Sm Bg a)(hb:Sm Bg b)(ib:bj h0 n0 .u32 vb b){Q1:Ex->Env->Hf->K->Prop}:
 ∀(m i:Nat) (out:List Nat) (bw:Nat) (h:Hf) (n:K),a.length - i=m->i<=a.length->Ls h0 n0 h n b3 bo vb a.length out->Sm Bg out->out.drop i=a.drop i->bw<=1->val Bg (out.take i)+val Bg (b.take i)=val Bg (a.take i)+bw*Bg ^ i->(∀(out:List Nat) (bw:Nat) (h:Hf) (n:K) E',Ls h0 n0 h n b3 bo vb a.length out->Sm Bg out->bw<=1->val Bg out+val Bg (b.take a.length)=val Bg a+bw*Bg ^ a.length->da [(k4,x4),(k5,.sl bo 0 a.length a.length)] E'->Q1 .normal E' h n)->WC C SQ [(k3,.p b3 0),(k4,x4),(k5,.sl bo 0 a.length a.length),(k6,.i .i64 (bw:Nat)),(aZ,.i .i64 (a.length:Nat)),(bf,.i .i64 (i:Nat))] h n (blk 0 Q1):=by
 intro m
 induction m with
 | zero=>
  intro i out bw h n hm hi p hs hd Zb hv hQ;have e:i=a.length:=by omega
  subst e;refine aQ ?_;refine θ<|aP U U<|ε ?_;refine ν<|aE U (by simp)<|bW ?_;rw[fO,pF (by rw[p.len];omega)]at hv;exact hQ out bw h n _ p hs Zb hv ⟨rfl,rfl,trivial⟩
 | succ m ih=>
  intro i out bw h n hm hi p hs O1 Zb hv hQ;have ψ:i<a.length:=by omega
  have fV:i<out.length:=by rw[p.len];exact ψ
  have io:bj h n .u32 (.sl bo 0 a.length a.length) out:=p.co.qL p.len;have pA:=(ib.at_ p.ext).up p.ext.1;have heq:out[i]=a[i]:=by rw[gi fV,gi ψ]at O1;injection O1
  have g1:cD h false 1 (.p (V.sl bo 0 a.length a.length).blk ((V.sl bo 0 a.length a.length).off+i*1))=some (.i .u32 (out[i]:Nat)):=io.get fV 1;have xk:∀{h'} {n'},Ext h n h' n'->cD h' false 1 (.p (V.sl bo 0 a.length a.length).blk ((V.sl bo 0 a.length a.length).off+i*1))=some (.i .u32 (out[i]:Nat)):=λe=>((p.co.ext e).qL p.len).get fV 1;have q1:a[i]<Bg:=ha.get ψ;have q2:=hb.getD (by decide) i;have t1:=vi (B:=Bg) a i;have t2:=vi (B:=Bg) b i;rw[jt ψ]at t1;simp only[Bg]at q1 q2;have tL:∀{Q:V->Hf->K->Prop},(∀h' n',Ext h n h' n'->Q (.i .u64 (b.getD i 0:Nat)) h' n')->τ C (.f 331 [] []) [.a [vb],.i .i64 (i:Nat)] h n Q:=λhQ=>Ct hC pA hb (by omega) hQ;rw[heq]at g1 xk;generalize qJ:b.getD i 0=bd at*;generalize MM:a[i]=ad at*;refine aQ ?_;refine θ<|aP U U<|ε ?_;refine ν<|aD U (by simp<;>omega)<|ao ?_;refine ν<|aK<|θ<|γ U<|γ U<|ε ?_;refine eS<|aL U<|aL U<|et U U io fV<|bc U g1 U (by simp[dH,iC,dD,jW])<|uV U ⟨by omega,by omega⟩<|bc U (cz p.c3.2 rfl) (mB (pA.below (Γ _))) (mC (ρ.dX pA))<|aL U<|cJ U U<|tL <| λh1 n1 e1=>uV U ⟨by omega,by omega⟩<|BU U U ⟨by omega,by omega⟩<|aL U<|BU U U ⟨by omega,by omega⟩<|aL U<|dQ (⟨⟨ak (by simp[Nat.testBit]),trivial⟩,⟨dJ g1 (xk e1),trivial⟩,trivial⟩) ?_;refine θ<|γ U<|ε ?_;refine ν<|θ<|γ U<|aP U U<|ε ?_;have p1:Ls h0 n0 h1 n1 b3 bo vb a.length out:=⟨p.ext.trans e1,p.c3.ext e1,p.co.ext e1,p.lo,p.CZ,p.len⟩;have EX:bj h1 n1 .u32 (.sl bo 0 a.length a.length) out:=p1.co.qL p1.len;have fin:∀(d Fi:Nat),d<1000000000->Fi<=1->((d:Int)=(ad:Int) - (bd:Int) - (bw:Int)+Fi*1000000000)->WC C SM [(k3,.p b3 0),(k4,x4),(k5,.sl bo 0 a.length a.length),(k6,.i .i64 (Fi:Nat)),(k7,.i .i64 (i:Nat)),(k8,.i .i64 (d:Nat)),(aZ,.i .i64 (a.length:Nat)),(bf,.i .i64 (i:Nat))] h1 n1 (blk 1 (sq C SN (sq C (.loop SP) (blk 0 Q1)))):=by
   intro d Fi hd aiV he;refine aR<|γ U<|γ U<|γ U<|pR U ⟨by omega,by omega⟩<|bh U U EX fV<|ct U U p1.co.2 (yC fV _ (by simp[V.off])) <| λh2 a2 b2=>ε ?_;refine aR<|cK U U ⟨by omega,by omega⟩<|γ U<|ε ?_;have p2:Ls h0 n0 h2 n1 b3 bo vb a.length (out.set i d):=⟨p1.ext.aA b2 p.lo,p1.c3.aA b2 p.CZ,⟨p1.co.1,a2⟩,p.lo,p.CZ,by rw[mL];exact p.len⟩;refine ae (ih (i+1) (out.set i d) Fi h2 n1 (by omega) (by omega) p2 (hs.set hd) ?_ aiV ?_ hQ) ⟨rfl,rfl,rfl,rfl,rfl,rfl,trivial⟩
   ·rw[W8];rw[gi fV,gi ψ]at O1;injection O1
   ·have t3:=vi (B:=Bg) (out.set i d) i;rw[aiT,yP,az ⟨rfl,fV⟩]at t3;rw[t3,t1,t2];have CL:d+bd+bw=ad+Fi*Bg:=by simp only[Bg];omega
    have e3:Bg ^ i*d+Bg ^ i*bd+Bg ^ i*bw=Bg ^ i*ad+Fi*Bg ^ (i+1):=by rw[←gB,←gB,CL,gB,gW];congr 1;rw[dY Fi Bg,←iX,dY]
    have e4:bw*Bg ^ i=Bg ^ i*bw:=dY _ _;omega
  refine di U (λhx=>?_) (λhx=>?_)
  ·simp only[bT]at hx;obtain⟨d,hd⟩:∃d:Nat,(d:Int)=(ad:Int) - (bd:Int) - (bw:Int)+1000000000:=⟨((ad:Int) - (bd:Int) - (bw:Int)+1000000000).toNat,by omega⟩;refine aR<|γ U<|kp U U hd.symm ⟨by omega,by omega⟩<|γ U<|γ U<|ε ?_;exact ae (fin d 1 (by omega) (by omega) (by omega)) ⟨rfl,rfl,rfl,rfl,rfl,rfl,rfl,rfl,trivial⟩
  ·simp only[dn]at hx;obtain⟨d,hd⟩:∃d:Nat,(d:Int)=(ad:Int) - (bd:Int) - (bw:Int):=⟨((ad:Int) - (bd:Int) - (bw:Int)).toNat,by omega⟩;refine ao ?_;rw[←hd];exact ae (fin d 0 (by omega) (by omega) (by omega)) ⟨rfl,rfl,rfl,rfl,rfl,rfl,rfl,rfl,trivial⟩
end
theorem W9(hC:Cd C){va vb:V}{a b:List Nat}(fX:a.length<1000)(gG:b.length<1000)(ha:Sm Bg a)(hb:eK Bg b)(ia:bj h n .u32 va a)(ib:bj h n .u32 vb b)(hle:val Bg b<=val Bg a)
 (hQ:∀v' l' h' n',Ext h n h' n'->bj h' n' .u32 v' l'->eK Bg l'->val Bg l'=val Bg a - val Bg b->(v'=.ns\/n.num<=v'.blk.num)->Q (.a [v']) h' n'):τ C (.f 320 [] []) [.a [va],.a [vb]] h n Q:=by
 refine τ.go hC.f320 U ?_;refine θ<|eL U U (fA ia.one) <| λh1 n1 dZ a1 e1=>eL U U (fA ib.one) <| λh2 n2 fB a2 e2=>ea <| λh3 n3 lz a3 e3=>ε ?_;have x3:=(e1.trans e2).trans e3;have c2:Cl h3 n3 n [va] 297:=Cl.ext (Cl.ext ⟨by omega,a1⟩ e2) e3;have c3:Cl h3 n3 n1 [vb] 297:=Cl.ext ⟨by omega,a2⟩ e3;have c4:Cl h3 n3 n2 [.ns] 297:=⟨by omega,a3⟩;have qM:=ia.ext x3;have qN:=ib.ext x3;refine θ<|Ω U<|χ U (c2.ld U _)<|aG U qM<|uX U U (by omega) (by omega) <| λh4 n4 nE a4 e4=>γ U<|ε ?_;rw[Aj]at a4;have Gn:=qM.ext e4;refine θ<|γ U<|Ω U<|χ U ((c2.ext e4).ld U _)<|RX U a4 ((by rw[Ll,List.length_replicate,ka])) U Gn (ads _) <| λh5 a5 b5=>ε ?_;refine θ<|γ U<|ε ?_;have e5:Ext h3 n3 h5 n4:=e4.aA b5 (Γ _);have p:Ls h3 n3 h5 n4 n1 n3 vb a.length a:=⟨e5,c3.ext e5,⟨by omega,a5⟩,Γ _,by omega,rfl⟩;refine ν<|θ<|γ U<|aG U (p.co.qL U)<|γ U<|ε ?_;refine aK<|ae (aiU (x4:=.p n2 0) hC fX gG ha hb.1 qN _ 0 a 0 h5 n4 rfl (by omega) p ha rfl (by omega) (by simp[val]) ?_) ⟨rfl,rfl,rfl,rfl,rfl,rfl,trivial⟩;intro out bw h6 n6 E6 p6 hs Zb hv hE;refine dB hE ?_;have iL:b.length<=a.length:=pU hb.2 ha (by decide) hle;rw[pF iL]at hv;have h2:=pS hs;rw[p6.len]at h2;have aiW:bw=0:=by
  rcases jR 0 bw with h | h
  ·have:bw=1:=by omega
   subst this;omega
  ·omega
 subst aiW;have io:bj h6 n6 .u32 (.sl n3 0 a.length a.length) out:=p6.co.qL p6.len;have d4:=c4.ext p6.ext;refine θ<|γ U<|al U U<|yR hC (Γ _) io (by have:=p6.len;omega) <| λv7 h7 n7 e7 i7 Ns wQ=>kl (kT rfl i7.cells i7.one)<|ct U U ((d4.ext e7).2) (ff rfl rfl (fA i7.one)) <| λh8 a8 b8=>ε ?_;have x8:Ext h n h8 n7:=((x3.trans p6.ext).trans e7).aA b8 (by omega);refine aj ⟨_,kP rfl (cz a8 rfl),?_⟩;exact hQ v7 (dE out) h8 n7 x8 ((i7.up e7.1).aA b8 (Or.inr (by rw[Ns];show n3.num≠n2.num;omega))) (rR hs) (by rw[pT];omega) (Or.inr (by rw[Ns];show n.num<=n3.num;omega))
end
section
variable {C:Nat->Option bP}{h:Hf}{n:K}{Q:V->Hf->K->Prop}
section
variable {h0:Hf}{n0 b3 bo:K}{x4 va vb:V}{a b:List Nat}
abbrev Em(b3 bo:K)(x4 va:V)(L la lb i ad:Nat)(r:Env):Env:=
 (k3,.p b3 0)::(k4,x4)::(k5,.sl bo 0 L L)::(k6,.i .i64 (i:Nat))::(k7,.i .u32 (ad:Nat))::(bp,va)::(bL,.i .i64 (la:Nat))::(bz,.i .i64 (i:Nat))::(bV,.i .i64 ((lb+1:Nat):Int))::r
theorem Xa(hC:Cd C)(fX:a.length<1000)(gG:b.length<1000)(ha:Sm Bg a)(hb:Sm Bg b)(ib:bj h0 n0 .u32 vb b){i:Nat}(hi:i<a.length){out:List Nat}{carry j:Nat}
 (p:Ls h0 n0 h n b3 bo vb (a.length+b.length+1) out)(hs:Sm Bg out)(hc:carry<Bg)(hj:j<=b.length){Q1:Ex->Env->Hf->K->Prop}
 (hQ:∀h' n' E',Ls h0 n0 h' n' b3 bo vb (a.length+b.length+1) (out.set (i+j) ((out.getD (i+j) 0+a[i]*b.getD j 0+carry) % Bg))->da (Em b3 bo x4 va (a.length+b.length+1) a.length b.length i a[i] [(k8,.i .u64 ((out.getD (i+j) 0+a[i]*b.getD j 0+carry) / Bg:Nat)),(cE,.i .i64 (j:Nat))]) E'->Q1 .normal E' h' n'):
 WC C SJ (Em b3 bo x4 va (a.length+b.length+1) a.length b.length i a[i] [(k8,.i .u64 (carry:Nat)),(cE,.i .i64 (j:Nat))]) h n Q1:=by
 have io:bj h n .u32 (.sl bo 0 (a.length+b.length+1) (a.length+b.length+1)) out:=p.co.qL p.len;have ua:i+j<a.length+b.length+1:=by omega
 have pV:i+j<out.length:=by rw[p.len];exact ua
 have go:=io.get pV 1;have go':∀{h'} {n'},Ext h n h' n'->cD h' false 1 (.p (V.sl bo 0 (a.length+b.length+1) (a.length+b.length+1)).blk ((V.sl bo 0 (a.length+b.length+1) (a.length+b.length+1)).off+(i+j)*1))=some (.i .u32 (out[i+j]:Nat)):=λe=>((p.co.ext e).qL p.len).get pV 1;have pA:=(ib.at_ p.ext).up p.ext.1;have q1:out[i+j]<Bg:=hs.get pV;have q2:a[i]<Bg:=ha.get hi;have q3:b.getD j 0<Bg:=hb.getD (by decide) j;have tc:=hc;simp only[Bg]at q1 q2 q3 tc;rw[jt pV]at hQ;have tL:∀{Q:V->Hf->K->Prop},(∀h' n',Ext h n h' n'->Q (.i .u64 (b.getD j 0:Nat)) h' n')->τ C (.f 331 [] []) [.a [vb],.i .i64 (j:Nat)] h n Q:=λhQ=>Ct hC pA hb (by omega) hQ;generalize CP:out[i+j]=od at*;generalize MM:a[i]=ad at*;generalize qJ:b.getD j 0=bd at*;have hmul:ad*bd<=999999999*999999999:=vO (by omega) (by omega);have e1:(ad:Int)*(bd:Int)=(ad*bd:Nat):=by simp
 refine θ<|γ U<|γ U<|ε ?_;refine eS<|aL U<|aL U<|aL U<|Eo U U (show(i:Int)+(j:Int)=((i+j:Nat):Int) from rfl) ⟨by omega,by omega⟩<|et U U io pV<|bc U go U (by simp[dH,iC,dD,jW])<|uV U ⟨by omega,by omega⟩<|aL U<|uV U ⟨by omega,by omega⟩<|bc U (cz p.c3.2 rfl) (mB (pA.below (Γ _))) (mC (ρ.dX pA))<|aL U<|cJ U U<|tL <| λh1 n1 x1=>Ak U U e1 ⟨by omega,by omega⟩<|yB U U ⟨by omega,by omega⟩<|aL U<|yB U U ⟨by omega,by omega⟩<|aL U<|dQ (⟨⟨ak (by simp[Nat.testBit]),trivial⟩,⟨dJ go (go' x1),trivial⟩,trivial⟩) ?_;have e2:(od:Int)+(ad*bd:Nat)+(carry:Int)=((od+ad*bd+carry:Nat):Int):=by omega
 rw[e2];generalize hx:od+ad*bd+carry=x at*;have p1:Ls h0 n0 h1 n1 b3 bo vb (a.length+b.length+1) out:=⟨p.ext.trans x1,p.c3.ext x1,p.co.ext x1,p.lo,p.CZ,p.len⟩;have EX:bj h1 n1 .u32 (.sl bo 0 (a.length+b.length+1) (a.length+b.length+1)) out:=p1.co.qL p1.len;refine θ<|γ U<|γ U<|γ U<|kp U U (show(i:Int)+(j:Int)=((i+j:Nat):Int) from rfl) ⟨by omega,by omega⟩<|γ U<|HU (b:=1000000000) U U (by omega)<|pR U ⟨by omega,by omega⟩<|bh U U EX pV<|ct U U p1.co.2 (yC pV _ (by simp[V.off])) <| λh2 a2 b2=>ε ?_;refine aR<|γ U<|Ej (b:=1000000000) U U (by omega) ⟨by omega,by omega⟩<|γ U<|ε ?_;exact hQ h2 _ _ ⟨p1.ext.aA b2 p.lo,p1.c3.aA b2 p.CZ,⟨p1.co.1,a2⟩,p.lo,p.CZ,by rw[mL];exact p.len⟩ ⟨rfl,rfl,rfl,rfl,rfl,rfl,rfl,rfl,rfl,rfl,rfl,trivial⟩
theorem aiX(hC:Cd C)(fX:a.length<1000)(gG:b.length<1000)(ha:Sm Bg a)(hb:Sm Bg b)(ib:bj h0 n0 .u32 vb b){i:Nat}(hi:i<a.length)(V0:Nat){Q1:Ex->Env->Hf->K->Prop}
 (hQ:∀out h' n' E',Ls h0 n0 h' n' b3 bo vb (a.length+b.length+1) out->Sm Bg out->val Bg out=V0+a[i]*val Bg b*Bg ^ i->(∀k,i+1+b.length<=k->out.getD k 0=0)->da (Em b3 bo x4 va (a.length+b.length+1) a.length b.length i a[i] []) E'->Q1 .normal E' h' n'):
 ∀(m j:Nat) (out:List Nat) (carry:Nat) (h:Hf) (n:K),b.length - j=m->j<=b.length->Ls h0 n0 h n b3 bo vb (a.length+b.length+1) out->Sm Bg out->carry<Bg->val Bg out+carry*Bg ^ (i+j)=V0+a[i]*val Bg (b.take j)*Bg ^ i->(∀k,i+b.length<=k->out.getD k 0=0)->WC C SK (Em b3 bo x4 va (a.length+b.length+1) a.length b.length i a[i] [(k8,.i .u64 (carry:Nat)),(cE,.i .i64 (j:Nat))]) h n (blk 2 Q1):=by
 intro m
 induction m with
 | zero=>
  intro j out carry h n hm hj p hs hc hv hz;have ej:j=b.length:=by omega
  subst ej;rw[fO]at hv;refine aQ ?_;refine θ<|aP U U<|ε ?_;refine ν<|aD U (by simp<;>omega)<|ao<|ν<|aK ?_;have z1:=hz (i+b.length) (by omega);have z2:b.getD b.length 0=0:=by simp
  have pa:i+b.length<out.length:=by rw[p.len];omega
  refine ae (Xa hC fX gG ha hb ib hi p hs hc (Γ _) ?_) ⟨rfl,rfl,rfl,rfl,rfl,rfl,rfl,rfl,rfl,rfl,rfl,trivial⟩;intro h1 n1 E1 p1 s1;simp only[z1,z2,kM,hY,zw hc]at p1;refine dB s1 ?_;refine aR<|cK U U ⟨by omega,by omega⟩<|γ U<|ε ?_;refine aQ ?_;refine θ<|aP U U<|ε ?_;refine ν<|aE U (by simp)<|bW ?_;have vs:=Iw (B:=Bg) out pa carry;have e0:out[i+b.length]=0:=by rw[←jt pa];exact z1
  rw[e0,kM,j8,dY (Bg ^ (i+b.length))]at vs;refine hQ _ h1 n1 _ p1 (hs.set hc) (by rw[vs];exact hv) (λk hk=>?_) ⟨rfl,rfl,rfl,rfl,rfl,rfl,rfl,rfl,rfl,trivial⟩;rw[yP,ai (by omega)];exact hz k (by omega)
 | succ m ih=>
  intro j out carry h n hm hj p hs hc hv hz;have ψ:j<b.length:=by omega
  have pa:i+j<out.length:=by rw[p.len];omega
  refine aQ ?_;refine θ<|aP U U<|ε ?_;refine ν<|aD U (by simp<;>omega)<|ao<|ν<|aK ?_;refine ae (Xa hC fX gG ha hb ib hi p hs hc hj ?_) ⟨rfl,rfl,rfl,rfl,rfl,rfl,rfl,rfl,rfl,rfl,rfl,trivial⟩;intro h1 n1 E1 p1 s1;refine dB s1 ?_;have q1:out[i+j]<Bg:=hs.get pa;have q2:a[i]<Bg:=ha.get hi;have q3:b.getD j 0<Bg:=hb.getD (by decide) j;have tc:=hc;simp only[Bg]at q1 q2 q3 tc;have t1:=vi (B:=Bg) b j;rw[jt pa]at p1 s1 ⊢;have vs:=Iw (B:=Bg) out pa ((out[i+j]+a[i]*b.getD j 0+carry) % Bg);generalize CP:out[i+j]=od at*;generalize MM:a[i]=ad at*;generalize qJ:b.getD j 0=bd at*;have hmul:ad*bd<=999999999*999999999:=vO (by omega) (by omega);refine aR<|cK U U ⟨by omega,by omega⟩<|γ U<|ε ?_;have YD:(od+ad*bd+carry) / Bg<Bg:=by show _ / 1000000000<1000000000;omega
  refine ae (ih (j+1) _ _ h1 n1 (by omega) (by omega) p1 (hs.set (mb _ (by decide))) YD ?_ (λk hk=>?_)) ⟨rfl,rfl,rfl,rfl,rfl,rfl,rfl,rfl,rfl,rfl,rfl,trivial⟩
  ·have dm:=xB (od+ad*bd+carry) Bg;generalize (od+ad*bd+carry) / Bg=qx at*;generalize (od+ad*bd+carry) % Bg=rx at*;rw[t1];have e1:Bg ^ (i+j)*od+Bg ^ (i+j)*(ad*bd)+Bg ^ (i+j)*carry=Bg ^ (i+j)*rx+Bg ^ (i+j)*(Bg*qx):=by
    rw[←gB,←gB,←gB];congr 1;omega
   have e2:qx*Bg ^ (i+(j+1))=Bg ^ (i+j)*(Bg*qx):=by rw[←mM,gW,dY,iX]
   have e3:ad*(val Bg (List.take j b)+Bg ^ j*bd)*Bg ^ i=ad*val Bg (List.take j b)*Bg ^ i+Bg ^ (i+j)*(ad*bd):=by rw[gB,iO];congr 1;rw[Nat.pow_add];simp only[dY,Nat.mul_left_comm,iX]
   have e4:carry*Bg ^ (i+j)=Bg ^ (i+j)*carry:=dY _ _;rw[e3];omega
  ·rw[yP,ai (by omega)];exact hz k hk
theorem aiY(hC:Cd C)(fX:a.length<1000)(gG:b.length<1000)(ha:Sm Bg a)(hb:Sm Bg b)(ia:bj h0 n0 .u32 va a)(ib:bj h0 n0 .u32 vb b){Q1:Ex->Env->Hf->K->Prop}
 (hQ:∀out h' n' E',Ls h0 n0 h' n' b3 bo vb (a.length+b.length+1) out->Sm Bg out->val Bg out=val Bg a*val Bg b->da [(k4,x4),(k5,.sl bo 0 (a.length+b.length+1) (a.length+b.length+1))] E'->Q1 .normal E' h' n'):
 ∀(m i:Nat) (out:List Nat) (h:Hf) (n:K),a.length - i=m->i<=a.length->Ls h0 n0 h n b3 bo vb (a.length+b.length+1) out->Sm Bg out->val Bg out=val Bg (a.take i)*val Bg b->(∀k,i+b.length<=k->out.getD k 0=0)->WC C SL [(k3,.p b3 0),(k4,x4),(k5,.sl bo 0 (a.length+b.length+1) (a.length+b.length+1)),(bp,va),(bL,.i .i64 (a.length:Nat)),(bz,.i .i64 (i:Nat))] h n (blk 0 Q1):=by
 intro m
 induction m with
 | zero=>
  intro i out h n hm hi p hs hv hz;have ei:i=a.length:=by omega
  subst ei;rw[fO]at hv;refine aQ ?_;refine θ<|aP U U<|ε ?_;exact ν<|aE U (by simp)<|bW (hQ out h _ _ p hs hv ⟨rfl,rfl,trivial⟩)
 | succ m ih=>
  intro i out h n hm hi p hs hv hz;have ψ:i<a.length:=by omega
  have pf:=ia.at_ p.ext;have pA:=ib.at_ p.ext;refine aQ ?_;refine θ<|aP U U<|ε ?_;refine ν<|aD U (by simp<;>omega)<|ao ?_;refine ν<|aK<|θ<|γ U<|bh U U pf ψ<|χ U (pf.get ψ _)<|γ U<|γ U<|ε ?_;refine θ<|γ U<|ε ?_;refine θ<|Ω U<|χ U (p.c3.ld U _)<|aG U pA<|cK U U ⟨by omega,by omega⟩<|γ U<|ε ?_;refine aK<|ae (aiX hC fX gG ha hb ib ψ (val Bg out) ?_ _ 0 out 0 h n rfl (by omega) p hs (by decide) (by simp[val]) hz) ⟨rfl,rfl,rfl,rfl,rfl,rfl,rfl,rfl,rfl,rfl,rfl,trivial⟩;intro MN h1 n1 E1 p1 kh v1 z1 s1;refine dB s1 ?_;refine aR<|cK U U ⟨by omega,by omega⟩<|γ U<|ε ?_;refine ae (ih (i+1) MN h1 n1 (by omega) (by omega) p1 kh ?_ z1) ⟨rfl,rfl,rfl,rfl,rfl,rfl,trivial⟩;rw[v1,hv,vi,jt ψ,iO];congr 1;simp only[dY,Nat.mul_left_comm,iX]
end
theorem Nt(hC:Cd C){va vb:V}{a b:List Nat}(fX:a.length<1000)(gG:b.length<1000)(ha:Sm Bg a)(hb:Sm Bg b)(ia:bj h n .u32 va a)(ib:bj h n .u32 vb b)
 (hQ:∀v' l' h' n',Ext h n h' n'->bj h' n' .u32 v' l'->eK Bg l'->val Bg l'=val Bg a*val Bg b->(v'=.ns\/n.num<=v'.blk.num)->Q (.a [v']) h' n'):τ C (.f 321 [] []) [.a [va],.a [vb]] h n Q:=by
 refine τ.go hC.f321 U ?_;refine θ<|eL U U (fA ia.one) <| λh1 n1 dZ a1 e1=>eL U U (fA ib.one) <| λh2 n2 fB a2 e2=>ea <| λh3 n3 lz a3 e3=>ε ?_;have x3:=(e1.trans e2).trans e3;have c2:Cl h3 n3 n [va] 297:=Cl.ext (Cl.ext ⟨by omega,a1⟩ e2) e3;have c3:Cl h3 n3 n1 [vb] 297:=Cl.ext ⟨by omega,a2⟩ e3;have c4:Cl h3 n3 n2 [.ns] 297:=⟨by omega,a3⟩;have qM:=ia.ext x3;have qN:=ib.ext x3;refine θ<|Ω U<|χ U (c2.ld U _)<|aG U qM<|Ω U<|χ U (c3.ld U _)<|aG U qN<|kp U U (show(a.length:Int)+(b.length:Int)=((a.length+b.length:Nat):Int) from rfl) ⟨by omega,by omega⟩<|kp U U (show((a.length+b.length:Nat):Int)+1=((a.length+b.length+1:Nat):Int) from rfl) ⟨by omega,by omega⟩<|uX U U (by omega) (by omega) <| λh4 n4 nE a4 e4=>γ U<|ε ?_;rw[Aj]at a4;have p:Ls h3 n3 h4 n4 n1 n3 vb (a.length+b.length+1) (List.replicate (a.length+b.length+1) 0):=⟨e4,c3.ext e4,⟨by omega,a4⟩,Γ _,by omega,by simp⟩;refine ν<|θ<|Ω U<|χ U ((c2.ext e4).ld U _)<|aG U qM<|γ U<|ε ?_;refine aK<|ae (aiY (x4:=.p n2 0) hC fX gG ha hb qM qN ?_ _ 0 _ h4 n4 rfl (by omega) p (Sm.rep (by decide) _) (by rw[V7];simp[val]) (λk _=>by simp[fF,List.getElem?_replicate];split<;>rfl)) ⟨rfl,rfl,rfl,rfl,rfl,rfl,trivial⟩;intro out h5 n5 E5 p5 hs5 v5 s5;refine dB s5 ?_;have io:bj h5 n5 .u32 (.sl n3 0 (a.length+b.length+1) (a.length+b.length+1)) out:=p5.co.qL p5.len;have d4:=c4.ext p5.ext;refine θ<|γ U<|al U U<|yR hC (Γ _) io (by have:=p5.len;omega) <| λv7 h7 n7 e7 i7 Ns wQ=>kl (kT rfl i7.cells i7.one)<|ct U U ((d4.ext e7).2) (ff rfl rfl (fA i7.one)) <| λh8 a8 b8=>ε ?_;have x8:Ext h n h8 n7:=((x3.trans p5.ext).trans e7).aA b8 (by omega);refine aj ⟨_,kP rfl (cz a8 rfl),?_⟩;exact hQ v7 (dE out) h8 n7 x8 ((i7.up e7.1).aA b8 (Or.inr (by rw[Ns];show n3.num≠n2.num;omega))) (rR hs5) (by rw[pT,v5]) (Or.inr (by rw[Ns];show n.num<=n3.num;omega))
end
section
variable {C:Nat->Option bP}{h:Hf}{n:K}{Q:V->Hf->K->Prop}
theorem aiZ{x A d:Nat}(B:Nat)(hd:0<d):(x+B*(A % d)) / d+B*(A / d)=(x+B*A) / d:=by
 have h:=xB A d;have e:x+B*A=(x+B*(A % d))+d*(B*(A / d)):=by rw[Nat.mul_left_comm d,mM,←gB,qs (A % d),h]
 rw[e,Nat.add_mul_div_left _ _ hd]
structure Sh(h0:Hf)(n0:K)(h:Hf)(n:K)(b3 b4 b5 b6 b7 bo:K)(d L:Nat)(out:List Nat)(rest:Nat):Prop where
 ext:Ext h0 n0 h n
 c3:Cl h n b3 [.i .u32 (d:Nat)] 342
 c4:Cl h n b4 [.ns] 297
 c5:Cl h n b5 [.ns] 297
 c6:Cl h n b6 [.sl bo 0 L L] 295
 c7:Cl h n b7 [.i .u64 (rest:Nat)] 349
 co:Cl h n bo (nC .u32 out) 342
 len:out.length=L
structure Shn(n0 b3 b4 b5 b6 b7 bo:K):Prop where
 l3:n0.num<=b3.num
 l4:b3.num<b4.num
 l5:b4.num<b5.num
 lo:b5.num<bo.num
 l6:bo.num<b6.num
 l7:b6.num<b7.num
theorem Sh.on{h0:Hf}{n0:K}{h h':Hf}{n n' b3 b4 b5 b6 b7 bo:K}{d L:Nat}{out:List Nat}{rest:Nat}(s:Sh h0 n0 h n b3 b4 b5 b6 b7 bo d L out rest)(e:Ext h n h' n'):Sh h0 n0 h' n' b3 b4 b5 b6 b7 bo d L out rest:=
 ⟨s.ext.trans e,s.c3.ext e,s.c4.ext e,s.c5.ext e,s.c6.ext e,s.c7.ext e,s.co.ext e,s.len⟩
theorem Sh.aA{h0:Hf}{n0:K}{h h':Hf}{n b3 b4 b5 b6 b7 bo b:K}{d L:Nat}{out:List Nat}{rest:Nat}(s:Sh h0 n0 h n b3 b4 b5 b6 b7 bo d L out rest)(o:Shn n0 b3 b4 b5 b6 b7 bo)(hb:b7.num<b.num)(e:df b h h'):Sh h0 n0 h' n b3 b4 b5 b6 b7 bo d L out rest:=by obtain⟨l3,l4,l5,lo,l6,l7⟩:=o;exact⟨s.ext.aA e (by omega),s.c3.aA e (by omega),s.c4.aA e (by omega),s.c5.aA e (by omega),s.c6.aA e (by omega),s.c7.aA e (by omega),s.co.aA e (by omega),s.len⟩
theorem Xb(hC:Cd C){va:V}{a:List Nat}{d:Nat}(fX:a.length<1000)(ha:Sm Bg a)(qc:0<d)(hd:d<Bg)(ia:bj h n .u32 va a)
 (hQ:∀v1 q v2 r h' n',Ext h n h' n'->bj h' n' .u32 v1 q->eK Bg q->val Bg q=val Bg a / d->bj h' n' .u32 v2 r->eK Bg r->val Bg r=val Bg a % d->(v1=.ns\/n.num<=v1.blk.num)->(v2=.ns\/n.num<=v2.blk.num)->Q (.u [.a [v1],.a [v2]]) h' n'):τ C (.f 329 [] []) [.a [va],.i .u32 (d:Nat)] h n Q:=by
 have CL:=hd;simp only[Bg]at CL;refine τ.go hC.f329 U ?_;refine θ<|eL U U (fA ia.one) <| λh1 n1 dZ a1 e1=>eL U U U <| λh2 n2 fB a2 e2=>ea <| λh3 n3 lz a3 e3=>ea <| λh4 n4 nE a4 e4=>ε ?_;have x4:=((e1.trans e2).trans e3).trans e4;have c2:Cl h4 n4 n [va] 297:=Cl.ext (Cl.ext (Cl.ext ⟨by omega,a1⟩ e2) e3) e4;have c3:Cl h4 n4 n1 [.i .u32 (d:Nat)] 342:=Cl.ext (Cl.ext ⟨by omega,a2⟩ e3) e4;have c4:Cl h4 n4 n2 [.ns] 297:=Cl.ext ⟨by omega,a3⟩ e4;have c5:Cl h4 n4 n3 [.ns] 297:=⟨by omega,a4⟩;have Gn:=ia.ext x4;refine θ<|Ω U<|χ U (c2.ld U _)<|aG U Gn<|uX U U (by omega) (by omega) <| λh5 n5 qK a5 e5=>ea <| λh6 n6 pz a6 e6=>ct U U a6 U <| λh7 a7 b7=>ε ?_;rw[Aj]at a5;have x7:Ext h4 n4 h7 n6:=(e5.trans e6).aA b7 (by omega);have co:Cl h7 n6 n4 (nC .u32 (List.replicate a.length 0)) 342:=Cl.aA (n:=n6) (Cl.ext ⟨by omega,a5⟩ e6) b7 (by omega);refine θ<|ea <| λh8 n8 mJ a8 e8=>ct U U a8 U <| λh9 a9 b9=>ε ?_;have Zc:Ext h7 n6 h9 n8:=e8.aA b9 (Γ _);have x9:=x7.trans Zc;have c69:Cl h9 n8 n5 [.sl n4 0 a.length a.length] 295:=Cl.ext ⟨by omega,a7⟩ Zc;have ord:Shn n n1 n2 n3 n5 n6 n4:=⟨by omega,by omega,by omega,by omega,by omega,by omega⟩;have s9:Sh h n h9 n8 n1 n2 n3 n5 n6 n4 d a.length (List.replicate a.length 0) 0:=⟨x4.trans x9,c3.ext x9,c4.ext x9,c5.ext x9,c69,⟨by omega,a9⟩,co.ext Zc,by simp⟩;have ia9:=Gn.ext x9;refine ν<|θ<|Ω U<|χ U ((c2.ext x9).ld U _)<|al U U<|Nq hC ia9 (by omega) ?_;intro bb e lj eV nG A6 rf fM it;refine ε ?_;have s10:=s9.on nG;have aqj:=ia9.ext nG;have EW:=s10.ext;have y10:=nG.1;let I:Nat->Hf->K->Prop:=λj h' n'=>(bb.num<n'.num/\h' bb=some (.c [va] e 0))/\∃out rest,Sh h n h' n' n1 n2 n3 n5 n6 n4 d a.length out rest/\Sm Bg out/\rest=val Bg (a.drop (a.length - j)) % d/\val Bg (out.drop (a.length - j))=val Bg (a.drop (a.length - j)) / d;refine aK<|BY U it I (λ_ _ _=>False) ?_ ?_ ?_ ?_ ?_ ?_ ?_ ?_
 ·rintro j h1 n1 h' n' ⟨⟨g2,g3⟩,out,rest,g4,g5,g6,g7⟩ ex;exact⟨⟨fN g2 ex.1,by rw[ex.2 _ g2];exact g3⟩,out,rest,g4.on ex,g5,g6,g7⟩
 ·rintro j h1 n1 h' ⟨⟨g2,g3⟩,out,rest,g4,g5,g6,g7⟩ bt;exact⟨⟨g2,by rw[bt _ (by omega)];exact g3⟩,out,rest,g4.aA ord (by omega) bt,g5,g6,g7⟩
 ·rintro j h1 n1 ⟨g2,out,rest,g4,_⟩;exact⟨g2.1,g2.2,ia.ext g4.ext⟩
 ·intro j hj;rw[wO];rfl
 ·intro h' bt;have O0:eV.succ.num=eV.num+1:=K.fH eV;refine⟨⟨by omega,by rw[bt _ (by omega)];exact A6⟩,_,0,(s10.aA ord (by omega) bt).on ⟨by omega,λ_ _=>rfl⟩,Sm.rep (by decide) _,?_,?_⟩
  ·rw[rA,nH];simp[val]
  ·rw[rA,nH,ql (by simp)];simp[val]
 ·rintro j hj oX wR E1 Nu ⟨⟨g2,g3⟩,out,rest,g4,g5,g6,g7⟩ j6;have fb:j<a.length:=by rw[tG]at hj;exact hj
  rw[wO]at j6;simp only[mS,rq]at j6;subst j6;have hi:a.length - 1 - j<a.length:=by omega
  rw[show a.length - j=(a.length - 1 - j)+1 by omega]at g6 g7;have tF:a.length - (j+1)=a.length - 1 - j:=by omega
  generalize a.length - 1 - j=i at*;rw[jt hi];refine θ<|γ U<|ε<|aR<|γ U<|ε ⟨rfl,rfl,λkm b12=>?_⟩;have rm:=g4.aA ord (by omega) b12;have fV:i<out.length:=by rw[rm.len];exact hi
  have q1:a[i]<Bg:=ha.get hi;have hr:rest<d:=by rw[g6];exact mb _ qc
  have hx:rest*1000000000+a[i]<d*Bg:=by
   have:rest*Bg+Bg<=d*Bg:=by rw[←vP];exact iw _ hr
   simp only[Bg]at this q1 ⊢;omega
  have Zd:(rest*1000000000+a[i]) / d<1000000000:=Nat.div_lt_of_lt_mul hx;have hxb:d*Bg<=1000000000*1000000000:=vO (by omega) (Γ _);have vd:=As (B:=Bg) a hi;have vo:=As (B:=Bg) (out.set i ((rest*1000000000+a[i]) / d)) (i:=i) (by rw[mL];exact fV);rw[Bt,W8]at vo;simp only[Bg]at q1;have xg:rest*1000000000+a[i]=a[i]+Bg*rest:=by simp only[Bg];omega
  have e6:val Bg (a.drop i) % d=(rest*1000000000+a[i]) % d:=by rw[vd,xg,g6,←Mx]
  have e7:val Bg ((out.set i ((rest*1000000000+a[i]) / d)).drop i)=val Bg (a.drop i) / d:=by rw[vo,g7,vd,xg,g6];exact aiZ Bg qc
  generalize hxx:rest*1000000000+a[i]=x at*;have C1:(0:Int)<=((x / d:Nat):Int):=sI _;have IN:((x / d:Nat):Int)<=18446744073709551615:=by generalize x / d=y at Zd ⊢;omega
  have ai3:((x / d:Nat):Int)<=4294967295:=by generalize x / d=y at Zd ⊢;omega
  refine aK<|θ<|χ U (rm.c7.ld U _)<|Lo U U ((show(rest:Int)*1000000000=((rest*1000000000:Nat):Int) by omega)) ⟨by omega,by omega⟩<|γ U<|pR U ⟨by omega,by omega⟩<|kp U U ((show((rest*1000000000:Nat):Int)+(a[i]:Nat)=(x:Nat) by omega)) ⟨by omega,by omega⟩<|γ U<|ε ?_;have io:bj km wR .u32 (.sl n4 0 a.length a.length) out:=rm.co.qL rm.len;have be:cu wR (.sl n4 0 a.length a.length)=true:=io.below (Γ _);refine eS<|bc U (rm.c6.ld U _) be (ρ.dX io)<|aL U<|aL U<|bc U (rm.c3.ld U _) U (gS _ _)<|uV U ⟨by omega,by omega⟩<|RN U U qc (⟨C1,IN⟩)<|uV U (⟨C1,ai3⟩)<|et U U io fV<|gH U U rm.co.2 (yC fV _ (by simp[V.off])) <| λsF MP ey=>dQ (⟨⟨ak (by simp[Nat.testBit]),trivial⟩,⟨ak (by simp[Nat.testBit]),trivial⟩,trivial⟩) ?_;obtain⟨l3,l4,l5,lo,l6,l7⟩:=ord;have aqk:=rm.c7.1;have yS:df n4 km sF:=ey;have Xc:=rm.c3.aA yS (by omega);have Xd:=rm.c7.aA yS (by omega);refine aR<|γ U<|χ U (Xc.ld U _)<|pR U ⟨by omega,by omega⟩<|HU U U qc<|ct U U Xd.2 U <| λBc Ze Aa=>ε ?_;have pX:df n6 sF Bc:=Aa;refine⟨Nu,(pX eV (by omega)).trans (yS eV (by omega)),⟨g2,(pX bb (by omega)).trans ((yS bb (by omega)).trans ((b12 bb (by omega)).trans g3))⟩,_,_,⟨(rm.ext.aA yS (by omega)).aA pX (by omega),Xc.aA pX (by omega),(rm.c4.aA yS (by omega)).aA pX (by omega),(rm.c5.aA yS (by omega)).aA pX (by omega),(rm.c6.aA yS (by omega)).aA pX (by omega),⟨Xd.1,Ze⟩,Cl.aA ⟨rm.co.1,MP⟩ pX (by omega),by rw[mL];exact rm.len⟩,g5.set Zd,by rw[tF];exact e6.symm,by rw[tF];exact e7⟩
 ·rintro h' n' Nu ⟨⟨g2,g3⟩,out,rest,s,g5,g6,g7⟩;rw[tG,qp,jS]at g6;rw[tG,qp,jS,jS]at g7;have io:bj h' n' .u32 (.sl n4 0 a.length a.length) out:=s.co.qL s.len;have be:cu n' (.sl n4 0 a.length a.length)=true:=io.below (Γ _);have hr:rest<d:=by rw[g6];exact mb _ qc
  have l7:∀{H:Hf},Ag n' h' H->cD H false 1 (.p n6 0)=some (.i .u64 (rest:Nat)):=λag=>(s.c7.ext (ag.x (Γ _))).ld U _;have zO:=s.len;refine eS<|bc U (s.c6.ld U _) be (ρ.dX io)<|cJ U U<|yR hC (Γ _) io (by omega) <| λv1 nu O2 zm O3 JO r1'=>Ah (kT rfl O3.cells O3.one)<|bc U (l7 zm.ag) U (gS _ _)<|uV U ⟨by omega,by omega⟩<|uW U <| λqG n2' aql a2' Fg=>cJ U U<|yR hC (l:=[rest]) (Γ _) (ρ.whole (len:=1) (by omega) a2' rfl) (by simp) <| λv3 MS Fj Gp O4 q3' r3'=>Ah (kT rfl O4.cells O4.one)<|gH U U (((s.c4.ext ((zm.trans Fg).trans Gp))).2) (ff rfl rfl (fA O3.one)) <| λOT a4' rk=>gH U U ((Cl.aA (n:=Fj) (s.c5.ext ((zm.trans Fg).trans Gp)) rk (by omega)).2) (ff rfl rfl (fA O4.one)) <| λJn Fk qh=>dQ (⟨⟨ak (by simp[Nat.testBit]),ak (by simp[Nat.testBit]),ak (by simp[Nat.testBit]),dJ (l7 ((Ag.refl _ _).hp O2 none zm.1)) (l7 (zm.ag.hp O2 none zm.1)),trivial⟩,⟨ak (by simp[Nat.testBit]),ak (by simp[Nat.testBit]),ak (by simp[Nat.testBit]),ak (by simp[Nat.testBit]),trivial⟩,trivial⟩) ?_;have x3':=(zm.trans Fg).trans Gp;have AP:df n3 OT Jn:=qh;have Fl:df n2 MS OT:=rk;have kh:Sm Bg [rest]:=Sm.cons (by simp only[Bg];omega) Sm.nil;refine aj ⟨_,Eg rfl (cz (l':=[v1]) ((AP n2 (by omega)).trans a4') U) U (cz Fk rfl),?_⟩;have A1:=s.c4.1;have O5:=s.c5.1;have O6:=s.co.1;have z1:=zm.1;have z2:=Fg.1;have z3:=Gp.1;have z0:=s.ext.1;refine hQ v1 (dE out) v3 (dE [rest]) Jn Fj (((s.ext.trans x3').aA Fl (by omega)).aA AP (by omega)) ?_ (rR g5) (by rw[pT,g7]) ?_ (rR kh) (by rw[pT];simp only[val];omega) (Or.inr (by rw[JO];show n.num<=n4.num;omega)) (Or.inr (by rw[q3'];show n.num<=O2.num;omega))
  ·have k1:v1.blk.num=n4.num:=by rw[JO];rfl
   exact((((O3.up z1).ext (Fg.trans Gp))).aA Fl (Or.inr (by omega))).aA AP (Or.inr (by omega))
  ·have k3:v3.blk.num=O2.num:=by rw[q3'];rfl
   exact(((O4.up (by omega)).ext (Ext.refl _ _)).aA Fl (Or.inr (by omega))).aA AP (Or.inr (by omega))
 ·rintro ex h' n' qG Nu hf;exact hf.elim
end
section
variable {C:Nat->Option bP}{h:Hf}{n:K}{Q:V->Hf->K->Prop}
abbrev Es(b8 b9 kZ oT b12 ey:K)(i:Nat)(r:Env):Env:=
 (k8,.p b8 0)::(k9,.p b9 0)::(aF,.p kZ 0)::(aH,.p oT 0)::(aN,.p b12 0)::(aO,.p ey 0)::(aT,.i .i64 (i:Nat))::r
section
variable {h0:Hf}{n0 b8 b9 kZ oT b12 ey:K}{i:Nat}{vr:V}{r:List Nat}{size top next head R bb P:Nat}
theorem ai5(hC:Cd C)(c9:Cl h0 n0 b9 [.i .i64 (size:Nat)] 3)(Gq:Cl h0 n0 kZ [.i .u64 (top:Nat)] 349)(Fm:Cl h0 n0 oT [.i .u64 (next:Nat)] 349)(lN:Cl h0 n0 ey [vr] 297)(ir:bj h0 n0 .u32 vr r)
 (hr:Sm Bg r)(oP:r.length<1000)(h2:2<=size)(eQ:size<1000)(d:Dg Bg R bb head (r.getD (size - 2) 0) top next P)(hp:P*Bg<=bb)(mw:top<Bg){Q1:Ex->Env->Hf->K->Prop}
 (hQ:∀cL h' n' E',Ext h0 n0 h' n'->cL*bb<R+bb->R / bb<=cL->cL<Bg->da (Es b8 b9 kZ oT b12 ey i [(aU,.i .u64 (cL:Nat))]) E'->Q1 .normal E' h' n'):
 ∀(cL left:Nat) (h:Hf) (n:K),Ext h0 n0 h n->cL*top+left=head->R / bb<=cL->cL<=Bg+1->left<Bg->WC C Lx (Es b8 b9 kZ oT b12 ey i [(aU,.i .u64 (cL:Nat)),(aZ,.i .u64 (left:Nat))]) h n (blk 2 Q1):=by
 have q2:=hr.getD (by decide) (size - 2);have tF:=d.rS;have main:∀(m cL left:Nat) (h:Hf) (n:K),cL=m->Ext h0 n0 h n->cL*top+left=head->R / bb<=cL->cL<=Bg+1->left<Bg->WC C Lx (Es b8 b9 kZ oT b12 ey i [(aU,.i .u64 (cL:Nat)),(aZ,.i .u64 (left:Nat))]) h n (blk 2 Q1):=by
  intro m
  induction m with
  | zero=>
   intro cL left h n hm e hg hq Fo hl;subst hm;have d9:=c9.ext e;have d11:=Fm.ext e;have d13:=lN.ext e;have Gs:=ir.ext e;have Gt:=hl;simp only[Bg]at q2 Fo hl tF;have tL:∀{Q:V->Hf->K->Prop},(∀h' n',Ext h n h' n'->Q (.i .u64 (r.getD (size - 2) 0:Nat)) h' n')->τ C (.f 331 [] []) [.a [vr],.i .i64 ((size - 2:Nat):Nat)] h n Q:=λhQ=>Ct hC Gs hr (by omega) hQ;refine aQ ?_;generalize oz:r.getD (size - 2) 0=l2 at*;refine ν<|eS<|aL U<|Ei U U<|aL U<|bF U (by simp)<|aL U<|bF U (by simp)<|bc U (d11.ld U _) U (gS _ _)<|bF U (by simp)<|Ak U U ((show((0:Nat):Int)*(next:Int)=((0:Nat):Int) by omega)) ⟨by omega,by omega⟩<|bF U (by simp)<|aL U<|bF U (by simp)<|Ak U U ((show(left:Int)*1000000000=((left*1000000000:Nat):Int) by omega)) ⟨by omega,by omega⟩<|bF U (by simp)<|bc U (cz d13.2 rfl) (mB (Gs.below (Γ _))) (mC (ρ.dX Gs))<|bF U (by simp)<|bc U (d9.ld U _) U (gS _ _)<|bF U (by simp)<|B0 U U ((show(size:Int) - 2=((size - 2:Nat):Int) by omega)) ⟨by omega,by omega⟩<|bF U (by simp)<|cJ U U<|tL <| λh1 n1 e1=>bF U (by simp)<|yB U U ⟨by omega,by omega⟩<|bF U (by simp)<|wA U U<|rO U (by simp) U<|dQ (⟨⟨ak (by simp[Nat.testBit]),trivial⟩,⟨ak (by simp[Nat.testBit]),trivial⟩,⟨dJ (d11.ld U _) ((d11.ext e1).ld U _),trivial⟩,trivial⟩) ?_;refine aE U (by simp<;>omega)<|bW ?_;exact hQ 0 h1 n1 _ (e.trans e1) (d.done hg (by simp only[Bg];omega) (by omega) hp) hq (by simp only[Bg];omega) ⟨rfl,rfl,rfl,rfl,rfl,rfl,rfl,rfl,trivial⟩
  | succ m ih=>
   intro cL left h n hm e hg hq Fo hl;have d9:=c9.ext e;have d10:=Gq.ext e;have d11:=Fm.ext e;have d13:=lN.ext e;have Gs:=ir.ext e;have tL:∀{Q:V->Hf->K->Prop},(∀h' n',Ext h n h' n'->Q (.i .u64 (r.getD (size - 2) 0:Nat)) h' n')->τ C (.f 331 [] []) [.a [vr],.i .i64 ((size - 2:Nat):Nat)] h n Q:=λhQ=>Ct hC Gs hr (by omega) hQ;have hmul:cL*next<=1000000001*1000000000:=vO (by simp only[Bg]at Fo;omega) (by simp only[Bg]at tF;omega);have e5:(cL:Int)*(next:Int)=((cL*next:Nat):Int):=by simp
   generalize oz:r.getD (size - 2) 0=l2 at*;have go:∀(h1:Hf) (n1:K) (E:Env),Ext h n h1 n1->(Bg<=cL\/left*Bg+l2<cL*next)->da (Es b8 b9 kZ oT b12 ey i [(aU,.i .u64 (cL:Nat)),(aZ,.i .u64 (left:Nat))]) E->WC C SC E h1 n1 (sq C (.loop SD) (blk 2 Q1)):=by
    intro h1 n1 E e1 hc hE;refine dB hE ?_;obtain⟨g1,g2⟩:=d.down hg hq hc;have zj:(cL - 1)*top+(left+top)=head:=by
     have:cL*top=(cL - 1)*top+top:=by rw[←vP];congr 1;omega
     omega
    have Nv:=Fo;have re:=hl;have ai6:=mw;simp only[Bg]at Nv re ai6;refine aK<|θ<|γ U<|kQ U U ((show(cL:Int) - 1=((cL - 1:Nat):Int) by omega)) ⟨by omega,by omega⟩<|γ U<|ε ?_;refine θ<|γ U<|χ U ((d10.ext e1).ld U _)<|kp U U ((show(left:Int)+(top:Int)=((left+top:Nat):Int) by omega)) ⟨by omega,by omega⟩<|γ U<|ε ?_;refine θ<|γ U<|fU U U<|ε ?_;by_cases hb:Bg<=left+top
    ·have jO:=hb;simp only[Bg]at jO;refine aD U (by simp<;>omega)<|bW ?_;obtain⟨g3,g4⟩:=d.brk zj hb;exact hQ (cL - 1) h1 n1 _ (e.trans e1) (d.done zj g3 g4 hp) g1 g3 ⟨rfl,rfl,rfl,rfl,rfl,rfl,rfl,rfl,trivial⟩
    ·have jO:=hb;simp only[Bg]at jO;refine aE U (by simp<;>omega)<|ao ?_;exact ae (ih (cL - 1) (left+top) h1 n1 (by omega) (e.trans e1) zj g1 (by omega) (by omega)) ⟨rfl,rfl,rfl,rfl,rfl,rfl,rfl,rfl,rfl,trivial⟩
   have Zf:=q2;have Nv:=Fo;have re:=hl;have ai7:=tF;simp only[Bg]at Zf Nv re ai7;refine aQ ?_;by_cases hB:Bg<=cL
   ·have Zg:=hB;simp only[Bg]at Zg;refine ν<|eS<|aL U<|Ei U U<|aL U<|fc U (by simp<;>omega)<|fc U (by simp<;>omega)<|fc U (by simp<;>omega)<|fc U (by simp<;>omega)<|fc U (by simp<;>omega)<|fc U (by simp<;>omega)<|fc U (by simp<;>omega)<|fc U (by simp<;>omega)<|fc U (by simp<;>omega)<|fc U (by simp<;>omega)<|fc U (by simp<;>omega)<|BV U (by simp<;>omega) U<|dQ (by simp[AG,mn,pv,Nat.testBit]) ?_;exact aD U U<|ao<|go h n _ (Ext.refl _ _) (Or.inl hB) ⟨rfl,rfl,rfl,rfl,rfl,rfl,rfl,rfl,rfl,trivial⟩
   ·have Zg:=hB;simp only[Bg]at Zg;refine ν<|eS<|aL U<|Ei U U<|aL U<|bF U (by simp<;>omega)<|aL U<|bF U (by simp<;>omega)<|bc U (d11.ld U _) U (gS _ _)<|bF U (by simp<;>omega)<|Ak U U e5 ⟨by omega,by omega⟩<|bF U (by simp<;>omega)<|aL U<|bF U (by simp<;>omega)<|Ak U U ((show(left:Int)*1000000000=((left*1000000000:Nat):Int) by omega)) ⟨by omega,by omega⟩<|bF U (by simp<;>omega)<|bc U (cz d13.2 rfl) (mB (Gs.below (Γ _))) (mC (ρ.dX Gs))<|bF U (by simp<;>omega)<|bc U (d9.ld U _) U (gS _ _)<|bF U (by simp<;>omega)<|B0 U U ((show(size:Int) - 2=((size - 2:Nat):Int) by omega)) ⟨by omega,by omega⟩<|bF U (by simp<;>omega)<|cJ U U<|tL <| λh1 n1 e1=>bF U (by simp<;>omega)<|yB U U ⟨by omega,by omega⟩<|bF U (by simp<;>omega)<|wA U U<|rO U (by simp<;>omega) U<|dQ (⟨⟨ak (by simp[Nat.testBit]),trivial⟩,⟨ak (by simp[Nat.testBit]),trivial⟩,⟨dJ (d11.ld U _) ((d11.ext e1).ld U _),trivial⟩,trivial⟩) ?_;by_cases hc:left*Bg+l2<cL*next
    ·have tc:=hc;simp only[Bg]at tc;exact aD U (by simp<;>omega)<|ao<|go h1 n1 _ e1 (Or.inr hc) ⟨rfl,rfl,rfl,rfl,rfl,rfl,rfl,rfl,rfl,trivial⟩
    ·have tc:=hc;simp only[Bg]at tc;refine aE U (by simp<;>omega)<|bW ?_;exact hQ cL h1 n1 _ (e.trans e1) (d.done hg (by omega) (by omega) hp) hq (by omega) ⟨rfl,rfl,rfl,rfl,rfl,rfl,rfl,rfl,trivial⟩
 intro cL left h n e hg hq Fo hl;exact main cL cL left h n rfl e hg hq Fo hl
end
end
section
variable {C:Nat->Option bP}{h:Hf}{n:K}{Q:V->Hf->K->Prop}
structure Dv(h0:Hf)(n0:K)(h:Hf)(n bo b12 ey:K)(L:Nat)(vr:V)(r:List Nat):Prop where
 ext:Ext h0 n0 h n
 qP:Cl h n b12 [.sl bo 0 L L] 295
 lN:Cl h n ey [vr] 297
 co:∃ds:List Nat,ds.length=L/\Cl h n bo (nC .u32 ds) 342
 ir:bj h n .u32 vr r
 Fp:eK Bg r
 sep:vr=.ns\/ey.num<vr.blk.num
def Kp(h:Hf)(n:K)(h':Hf)(n' bo ey:K):Prop:=n.num<=n'.num/\∀k:K,k.num<n.num->k.num≠bo.num->k.num≠ey.num->h' k=h k
theorem Kp.refl(h:Hf)(n bo ey:K):Kp h n h n bo ey:=⟨Γ _,λ_ _ _ _=>rfl⟩
theorem Kp.ext{h h1 h2:Hf}{n n1 n2 bo ey:K}(a:Kp h n h1 n1 bo ey)(e:Ext h1 n1 h2 n2):Kp h n h2 n2 bo ey:=⟨gY a.1 e.1,λk h1 h2 h3=>by rw[e.2 k (fN h1 a.1)];exact a.2 k h1 h2 h3⟩
theorem Kp.aA{h h1 h2:Hf}{n n1 bo ey b:K}(a:Kp h n h1 n1 bo ey)(e:df b h1 h2)(hb:b.num=bo.num\/b.num=ey.num\/n.num<=b.num):Kp h n h2 n1 bo ey:=⟨a.1,λk h1 h2 h3=>by rw[e k (by omega)];exact a.2 k h1 h2 h3⟩
theorem bj.ai8{h:Hf}{n:K}{v:V}{x:Nat}{r:List Nat}(a:ρ h n 1 v (1+r.length) ([.i .u32 (x:Nat)]++nC .u32 r)):bj h n .u32 v (x::r):=by show ρ h n 1 v (r.length+1) _;rw[qs];exact a
section
variable {h0:Hf}{n0 b8 b9 kZ oT b12 ey bo:K}{i L:Nat}{vb:V}{b:List Nat}{size top next:Nat}
theorem Xe(hC:Cd C)(ho:n0.num<=bo.num)(O6:bo.num<b12.num)(um:b12.num<ey.num){hs:Hf}{ns:K}{vr:V}{r p:List Nat}{b19:K}{vp:V}{g:Nat}(s:Dv h0 n0 h n bo b12 ey L vr r)(hk:Kp hs ns h n bo ey)(DS:ey.num<ns.num)
 (JP:Cl h n b19 [vp] 297)(ip:bj h n .u32 vp p)(np:eK Bg p)(oP:r.length<1000)(xh:p.length<1000)(hg:g<Bg)(hle:val Bg p<=val Bg r){Q1:Ex->Env->Hf->K->Prop}
 (hQ:∀m7 r' h' n' E',Dv h0 n0 h' n' bo b12 ey L m7 r'->Kp hs ns h' n' bo ey->(m7=.ns\/ns.num<=m7.blk.num)->val Bg r'=val Bg r - val Bg p->Q1 .normal E' h' n'):
 WC C SE [(aN,.p b12 0),(aO,.p ey 0),(aT,.i .i64 (i:Nat)),(aU,.i .u64 (g:Nat)),(bf,.p b19 0)] h n Q1:=by
 have OX:=hg;simp only[Bg]at OX;have gz:=s.lN.1;have sQ:=hk.1;refine θ<|χ U (cz s.lN.2 rfl)<|χ U (cz JP.2 rfl)<|al U U<|W9 hC oP xh s.Fp.1 np s.ir ip hle <| λv1 r1 h1 n1 e1 i1 nr1 vl1 Xf=>ct U U ((s.lN.ext e1).2) (ff rfl rfl (fA i1.one)) <| λh2 a2 b2=>ε ?_;have AQ:df ey h1 h2:=b2;have qP:=(s.qP.ext e1).aA AQ (by omega);have x2:Ext h0 n0 h2 n1:=(s.ext.trans e1).aA AQ (by omega);have k2:Kp hs ns h2 n1 bo ey:=(hk.ext e1).aA AQ (Or.inr (Or.inl U));obtain⟨ds,uv,co⟩:=s.co;have Zh:=(co.ext e1).aA AQ (by omega);have sep:v1=.ns\/ey.num<v1.blk.num:=Xf.imp id λh=>by omega
 have i2:bj h2 n1 .u32 v1 r1:=i1.aA AQ (sep.imp id λh=>by omega);have io:bj h2 n1 .u32 (.sl bo 0 L L) ds:=Zh.qL uv;have ce1:=e1.1;have sp1:v1=.ns\/ns.num<=v1.blk.num:=Xf.imp id λh=>by omega
 refine θ<|γ U<|χ U (qP.ld U _)<|aG U io<|aP U U<|ε ?_;have s2:Dv h0 n0 h2 n1 bo b12 ey L v1 r1:=⟨x2,qP,⟨by omega,a2⟩,⟨ds,uv,Zh⟩,i2,nr1,sep⟩;by_cases hi:i<ds.length
 ·refine aD U (by simp<;>omega) ?_;refine aR<|χ U (qP.ld U _)<|γ U<|γ U<|pR U ⟨by omega,by omega⟩<|bh U U io hi<|ct U U Zh.2 (yC hi _ (by simp[V.off])) <| λh3 a3 b3=>ε ?_;have wT:df bo h2 h3:=b3;refine hQ v1 r1 h3 n1 _ ⟨x2.aA wT ho,qP.aA wT (by omega),Cl.aA (n:=n1) ⟨by omega,a2⟩ wT (by omega),⟨_,by rw[mL];exact uv,⟨by omega,a3⟩⟩,i2.aA wT (sep.imp id λh=>by omega),nr1,sep⟩ (k2.aA wT (Or.inl U)) sp1 vl1
 ·exact aE U (by simp<;>omega)<|ao (hQ v1 r1 h2 n1 _ s2 k2 sp1 vl1)
theorem ajd(hC:Cd C)(ho:n0.num<=bo.num)(O6:bo.num<b12.num)(um:b12.num<ey.num)
 (c8:Cl h0 n0 b8 [vb] 297)(ib:bj h0 n0 .u32 vb b)(nb:eK Bg b)(iL:b.length=size)(mV:2<=size)(eQ:size<500)(c9:Cl h0 n0 b9 [.i .i64 (size:Nat)] 3)(Gq:Cl h0 n0 kZ [.i .u64 (b.getD (size - 1) 0:Nat)] 349)(Fm:Cl h0 n0 oT [.i .u64 (b.getD (size - 2) 0:Nat)] 349)
 (mw:Bg<=2*b.getD (size - 1) 0){vr:V}{r:List Nat}(s:Dv h0 n0 h n bo b12 ey L vr r)(hr:val Bg r<val Bg b){x:Nat}(hx:x<Bg){Q1:Ex->Env->Hf->K->Prop}
 (hQ:∀m7 r' h' n' E',Dv h0 n0 h' n' bo b12 ey L m7 r'->Kp h n h' n' bo ey->(m7=.ns\/n.num<=m7.blk.num)->val Bg r'=(x+Bg*val Bg r) % val Bg b->Q1 .normal E' h' n'):
 WC C SF (Es b8 b9 kZ oT b12 ey i [(aV,.i .u32 (x:Nat))]) h n Q1:=by
 have oP:r.length<=size:=by rw[←iL];exact pU s.Fp.2 nb.1 (by decide) (fZ hr)
 have sD:0<val Bg b:=by omega
 have gz:=s.lN.1;have aqm:=s.ext.1;have oN:=hx;simp only[Bg]at oN;refine aK<|Ky<|θ<|γ U<|fx U <| λh1 n1 dZ a1 e1=>Ω U<|χ U ((s.lN.ext e1).ld U _)<|RW U (ρ.whole (len:=1) (by omega) a1 rfl) U ((s.ir.ext e1)) (by omega) (by omega) (by omega) <| λv2 h2 n2 i2 e2 fB fM=>al U U<|yR hC (Γ _) (bj.ai8 i2) (by simp<;>omega) <| λv3 h3 n3 e3 i3 zd lz=>kl (kT rfl i3.cells i3.one)<|ct U U ((((s.lN.ext e1).ext e2).ext e3).2) (ff rfl rfl (fA i3.one)) <| λh4 a4 b4=>ε ?_;have rk:df ey h3 h4:=b4;have kL:=(e1.trans e2).trans e3;have z13:=kL.1;have sR:Sm Bg (x::r):=Sm.cons hx s.Fp.1;have nR:eK Bg (dE (x::r)):=rR sR;have vR:val Bg (dE (x::r))=x+Bg*val Bg r:=by rw[pT];rfl
 have lR:(dE (x::r)).length<=size+1:=by have:=AA (x::r);simp only[fG]at this;omega
 generalize dE (x::r)=R at*;have hRb:val Bg R<Bg*val Bg b:=by rw[vR];have:Bg*(val Bg r+1)<=Bg*val Bg b:=rp _ hr;rw[gB]at this;omega
 have v3b:v3.blk.num=n.num\/v3.blk.num=n1.num:=by
  rw[zd];rcases fM with h | h
  ·exact Or.inl (by rw[h])
  ·exact Or.inr (by rw[h])
 have x4:Ext h0 n0 h4 n3:=(s.ext.trans kL).aA rk (by omega);have k4':Kp h n h4 n3 bo ey:=((Kp.refl h n bo ey).ext kL).aA rk (Or.inr (Or.inl U));have i4:bj h4 n3 .u32 v3 R:=(i3.up e3.1).aA rk (Or.inr (by omega));have lN:Cl h4 n3 ey [v3] 297:=⟨by omega,a4⟩;obtain⟨ds,uv,co⟩:=s.co;have s4:Dv h0 n0 h4 n3 bo b12 ey L v3 R:=⟨x4,(s.qP.ext kL).aA rk (by omega),lN,⟨ds,uv,(co.ext kL).aA rk (by omega)⟩,i4,nR,Or.inr (by omega)⟩;clear a1 i2 a4 b4;have l9:∀{h' n'},Ext h4 n3 h' n'->cD h' false 1 (.p b9 0)=some (.i .i64 (size:Nat)):=λe=>(c9.ext (x4.trans e)).ld U _;have O7:∀{h' n'},Ext h4 n3 h' n'->cD h' true 1 (.p ey 0)=some (.a [v3]):=λe=>cz (lN.ext e).2 rfl;have q2:R.getD size 0<Bg:=nR.1.getD (by decide) _;have q1:R.getD (size - 1) 0<Bg:=nR.1.getD (by decide) _;have dg:=agb (B:=Bg) (by decide) nb.1 iL mV mw nR.1 hRb;have hP:=Wi (B:=Bg) (by decide) nb.1 iL mV (by simp only[Bg]at mw;omega);have IP:=dg.first
 have htb:b.getD (size - 1) 0<Bg:=nb.1.getD (by decide) _;have Xg:∀{Q:V->Hf->K->Prop},(∀h' n',Ext h4 n3 h' n'->Q (.i .u64 (R.getD size 0:Nat)) h' n')->τ C (.f 331 [] []) [.a [v3],.i .i64 (size:Nat)] h4 n3 Q:=λhQ=>Ct hC i4 nR.1 (by omega) hQ;have Xh:∀{Q:V->Hf->K->Prop} {h' n'},Ext h4 n3 h' n'->(∀A3 oe,Ext h' n' A3 oe->Q (.i .u64 (R.getD (size - 1) 0:Nat)) A3 oe)->τ C (.f 331 [] []) [.a [v3],.i .i64 ((size - 1:Nat):Nat)] h' n' Q:=λe hQ=>Ct hC (i4.ext e) nR.1 (by omega) hQ;have Zi:0<b.getD (size - 1) 0:=by simp only[Bg]at mw;omega
 generalize hh:R.getD size 0*Bg+R.getD (size - 1) 0=head at*;generalize R.getD size 0=r2 at*;generalize R.getD (size - 1) 0=r1 at*;have Zf:=q2;have JO:=q1;have hh':=hh;have Nw:=IP.2;simp only[Bg]at Zf JO hh' Nw;refine eS<|bc U (O7 (Ext.refl _ _)) (mB (i4.below (Γ _))) (mC (ρ.dX i4))<|bc U (l9 (Ext.refl _ _)) U (gS _ _)<|cJ U U<|Xg <| λh5 n5 e5=>Ak U U ((show(r2:Int)*1000000000=((r2*1000000000:Nat):Int) by omega)) ⟨by omega,by omega⟩<|bc U (O7 e5) (mB ((i4.ext e5).below (Γ _))) (mC (ρ.dX i4))<|bc U (l9 e5) U (gS _ _)<|B0 U U ((show(size:Int) - 1=((size - 1:Nat):Int) by omega)) ⟨by omega,by omega⟩<|cJ U U<|Xh e5 <| λh6 n6 e6=>Eo U U ((show((r2*1000000000:Nat):Int)+(r1:Int)=((head:Nat):Int) by omega)) ⟨by omega,by omega⟩<|aL U<|dQ (⟨⟨ak (by simp[Nat.testBit]),dJ (l9 (Ext.refl _ _)) (l9 e5),trivial⟩,⟨ak (by simp[Nat.testBit]),dJ (O7 (Ext.refl _ _)) (O7 e5),trivial⟩,⟨ak (by simp[Nat.testBit]),ak (by simp[Nat.testBit]),trivial⟩,⟨ak (by simp[Nat.testBit]),ak (by simp[Nat.testBit]),trivial⟩,trivial⟩) ?_;have Gu:Ext h4 n3 h6 n6:=e5.trans e6;have x6:=x4.trans Gu;have k6':Kp h n h6 n6 bo ey:=k4'.ext Gu;clear e5 e6 Xh Xg;have d10:=Gq.ext x6;have C1:(0:Int)<=((head / b.getD (size - 1) 0:Nat):Int):=sI _;have IN:((head / b.getD (size - 1) 0:Nat):Int)<=18446744073709551615:=by generalize head / b.getD (size - 1) 0=y at Nw ⊢;omega
 refine eS<|aL U<|bc U (d10.ld U _) U (gS _ _)<|RN U U Zi (⟨C1,IN⟩)<|aL U<|bc U (d10.ld U _) U (gS _ _)<|adf U U Zi<|aL U<|aL U<|dQ (by simp[AG,mn,pv,Nat.testBit]) ?_;refine ν<|ao<|ν<|aK ?_;have i6:=i4.ext Gu;have ajf:=lN.ext Gu;have Gt:head % b.getD (size - 1) 0<Bg:=Nat.lt_trans (mb _ Zi) htb;refine ae (ai5 hC (c9.ext x6) d10 (Fm.ext x6) ajf i6 nR.1 (by omega) mV (by omega) dg hP htb (b8:=b8) (b12:=b12) (i:=i) ?_ (head / b.getD (size - 1) 0) (head % b.getD (size - 1) 0) h6 n6 (Ext.refl _ _) (by rw[dY];exact xB _ _) IP.1 IP.2 Gt) ⟨rfl,rfl,rfl,rfl,rfl,rfl,rfl,rfl,rfl,trivial⟩;intro g h7 n7 E7 e7 AH MK Zj hE;refine dB hE ?_;clear hE C1 IN Gt IP Nw dg hP;have x7:=x6.trans e7;have ajg:=Zj;simp only[Bg]at ajg;have d8:=c8.ext x7;have C5:=ib.ext x7;have e47:=Gu.trans e7;have l8:∀{H:Hf},Ag n7 h7 H->cD H true 1 (.p b8 0)=some (.a [vb]):=λag=>cz (d8.ext (ag.x (Γ _))).2 rfl;refine eS<|bc U (l8 (Ag.refl _ _)) (mB (C5.below (Γ _))) (mC (ρ.dX C5))<|aL U<|uV U ⟨by omega,by omega⟩<|uW U <| λh8 n8 mJ a8 e8=>cJ U U<|yR hC (l:=[g]) (Γ _) (ρ.whole (len:=1) (by omega) a8 rfl) (by simp) <| λv9 h9 n9 e9 i9 Zk Nx=>Ah (kT rfl i9.cells i9.one)<|cJ U U<|Nt hC (by omega) (by have:=AA [g];simp only[fG,pG]at this;omega) nb.1 (V8 (Sm.cons Zj Sm.nil)) ((C5.ext e8).ext e9) (i9.up e9.1) <| λv10 O8 lj eV nG i10 Fq ajh aji=>Ai <| λoX wR aqn F2 zk=>gH U U ((IL (by have:=e9.1;have:=nG.1;omega)).trans F2) (ff rfl rfl (fA i10.one)) <| λkm JE b12=>dQ (⟨⟨ak (by simp[Nat.testBit]),ak (by simp[Nat.testBit]),dJ (l8 ((e8.ag.hp eV none (by have:=e9.1;have:=nG.1;omega)).hp n7 none (Γ _))) (l8 (((e8.trans e9).ag.hp eV none (by have:=e9.1;have:=nG.1;omega)).hp n7 none (Γ _))),trivial⟩,trivial⟩) ?_;have z8:=e8.1;have z9:=e9.1;have z10:=nG.1;have z11:eV.num<=wR.num:=by omega
 have Xi:df eV (hp oX n7 (lj n7)) km:=b12;have Xj:Ext (hp lj n7 none) eV oX wR:=zk;have ajj:Ag n7 h7 km:=((((((e8.trans e9).trans nG).ag.hp n7 none (Γ _)).ext Xj (by omega)).hp n7 (lj n7) (Γ _)).aA Xi (by omega));have Fs:Ext h7 n7 km wR:=ajj.x (by omega);have Xk:v10=.ns\/v10.blk.num≠n7.num:=aji.imp id λh=>by omega
 have i12:bj km wR .u32 v10 O8:=(((i10.aA (lI lj n7 none) Xk).ext Xj).aA (lI oX n7 _) Xk).aA Xi (i10.xT.imp id λh=>by omega);have JP:Cl km wR eV [v10] 297:=⟨by omega,JE⟩;have vp:val Bg O8=g*val Bg b:=by rw[ajh,pT];simp only[val,kM,j8];rw[dY]
 clear a8 F2 JE b12 i10 i9;have Ft:=e47.trans Fs;have x12:=x7.trans Fs;have rm:Dv h0 n0 km wR bo b12 ey L v3 R:=⟨x12,s4.qP.ext Ft,s4.lN.ext Ft,by obtain⟨ds,g1,g2⟩:=s4.co;exact⟨ds,g1,g2.ext Ft⟩,s4.ir.ext Ft,nR,s4.sep⟩;have ajl:Kp h n km wR bo ey:=(k6'.ext e7).ext Fs;have xh:O8.length<=size+1:=by apply IF (B:=Bg) Fq.2 (by decide);rw[vp,gW,←iL];have h1:=pS nb.1;have h3:g*val Bg b<=Bg*val Bg b:=iw _ (by omega);have h4:Bg*val Bg b<Bg*Bg ^ b.length:=GI h1 (by decide);rw[dY (Bg ^ b.length)];omega
 have Xl:∀g',g'*val Bg b<=val Bg R->val Bg R<g'*val Bg b+val Bg b->val Bg R - g'*val Bg b=(x+Bg*val Bg r) % val Bg b:=λg' h1 h2=>by rw[←vR];exact Wd sD h1 h2
 have Ap:val Bg R<(g+1)*val Bg b:=fN ((Bj sD).1 (Nat.lt_succ_of_le MK)) (Γ _);rw[iO,Nat.one_mul]at Ap;refine ν<|θ<|χ U (cz JP.2 rfl)<|χ U (cz rm.lN.2 rfl)<|al U U<|W7 hC (by omega) (by omega) Fq nR i12 rm.ir <| λsF Gv lO=>cQ U U<|ε ?_;rw[vp];have Fu:=Ft.trans lO;have s13:Dv h0 n0 sF Gv bo b12 ey L v3 R:=⟨x12.trans lO,s4.qP.ext Fu,s4.lN.ext Fu,by obtain⟨ds,g1,g2⟩:=s4.co;exact⟨ds,g1,g2.ext Fu⟩,s4.ir.ext Fu,nR,s4.sep⟩;have Xm:Kp h n sF Gv bo ey:=ajl.ext lO;by_cases zj:val Bg R<g*val Bg b
 ·have tE:gJ (g*val Bg b) (val Bg R)=1:=by unfold gJ;rw[ai (by omega),az zj]
  rw[tE];have JA:0<g:=by
   rcases Nat.eq_zero_or_pos g with h | h
   ·rw[h,Nat.zero_mul]at zj;omega
   ·exact h
  have Fo:(g - 1)*val Bg b+val Bg b=g*val Bg b:=by rw[←vP];congr 1;omega
  refine aD U (by simp) ?_;refine θ<|γ U<|kQ U U ((show(g:Int) - 1=((g - 1:Nat):Int) by omega)) ⟨by omega,by omega⟩<|γ U<|ε ?_;have d8':=(d8.ext Fs).ext lO;refine aR<|χ U (cz (JP.ext lO).2 rfl)<|χ U (cz d8'.2 rfl)<|al U U<|W9 hC (by omega) (by omega) Fq.1 nb (i12.ext lO) ((C5.ext Fs).ext lO) (by rw[vp];omega) <| λv14 Zl Bc Ny uq i14 Xn ajm ajn=>ct U U (((JP.ext lO).ext uq).2) (ff rfl rfl (fA i14.one)) <| λux Zm b15=>ε ?_;have Fv:df eV Bc ux:=b15;have aqo:=lO.1;have z14:=uq.1;have zn:n.num<=eV.num:=by have:=Gu.1;have:=e7.1;omega
  have Fw:Ext h4 n3 ux Ny:=(Fu.trans uq).aA Fv (by have:=Gu.1;have:=e7.1;omega);have s15:Dv h0 n0 ux Ny bo b12 ey L v3 R:=⟨x4.trans Fw,s4.qP.ext Fw,s4.lN.ext Fw,by obtain⟨ds,g1,g2⟩:=s4.co;exact⟨ds,g1,g2.ext Fw⟩,s4.ir.ext Fw,nR,s4.sep⟩;have ajo:Kp h n ux Ny bo ey:=(Xm.ext uq).aA Fv (Or.inr (Or.inr (by omega)));have i15:bj ux Ny .u32 v14 Zl:=i14.aA Fv (ajn.imp id λh=>by omega);rw[vp]at ajm;have NA:val Bg Zl=(g - 1)*val Bg b:=by omega
  have aqp:Zl.length<=O8.length:=pU Xn.2 Fq.1 (by decide) (by rw[NA,vp];omega);refine ae (Xe hC ho O6 um (i:=i) (g:=g - 1) s15 ajo (by omega) ⟨by omega,Zm⟩ i15 Xn (by omega) (by omega) (by omega) (by rw[NA];omega) ?_) ⟨rfl,rfl,rfl,rfl,rfl,trivial⟩;intro m7 r' h' n' E' s' k' NB oh;refine hQ m7 r' h' n' E' s' k' NB ?_;rw[oh,NA];exact Xl _ (by omega) (by omega)
 ·have tE:¬ 0<gJ (g*val Bg b) (val Bg R):=by unfold gJ;split<;>(try split)<;>omega
  refine aE U (by simpa using tE)<|ao ?_;refine ae (Xe hC ho O6 um (i:=i) (g:=g) s13 Xm (by omega) (JP.ext lO) (i12.ext lO) Fq (by omega) (by omega) Zj (by rw[vp];omega) ?_) ⟨rfl,rfl,rfl,rfl,rfl,trivial⟩;intro m7 r' h' n' E' s' k' NB oh;refine hQ m7 r' h' n' E' s' k' NB ?_;rw[oh,vp];exact Xl _ (by omega) (by omega)
end
end
section
variable {C:Nat->Option bP}{h:Hf}{n:K}{Q:V->Hf->K->Prop}
section
variable {hs:Hf}{ns b2 b4 b5 b6 b7 b8 b9 kZ oT b12 ey bo:K}{L:Nat}
theorem ajp(hC:Cd C){vs vr:V}{s:Nat}{r ds:List Nat}(x:Ext hs ns h n)(A1:ns.num<=b4.num)(JM:b4.num<b5.num)(JQ:0<s)(JR:s<Bg)
 (c4:Cl h n b4 [.ns] 297)(c5:Cl h n b5 [.ns] 297)(c6:Cl h n b6 [vs] 297)(is:bj h n .u32 vs [s])(qP:Cl h n b12 [.sl bo 0 L L] 295)(co:Cl h n bo (nC .u32 ds) 342)(uv:ds.length=L)(hL:L<2000)(CY:b5.num<bo.num)
 (lN:Cl h n ey [vr] 297)(ir:bj h n .u32 vr r)(nr:eK Bg r)(oP:r.length<1000)
 (hQ:∀vq q v2 r2 h' n',Ext hs ns h' n'->bj h' n' .u32 vq q->bj h' n' .u32 v2 r2->eK Bg r2->val Bg r2=val Bg r / s->(v2=.ns\/ns.num<=v2.blk.num)->Q (.u [.a [vq],.a [v2]]) h' n'):
 WC C SG [(k4,.p b4 0),(k5,.p b5 0),(k6,.p b6 0),(aN,.p b12 0),(aO,.p ey 0)] h n (fq [.cell k4 true 1,.cell k5 true 1] Q):=by
 have h0:0<([s]:List Nat).length:=by simp
 have z4:=c4.1;have z5:=c5.1;have zo:=co.1;have zx:=x.1;refine eS<|bc U (cz lN.2 rfl) (mB (ir.below (Γ _))) (mC (ρ.dX ir))<|dG U<|bc U (c6.ld U _) (is.below (Γ _)) (ρ.dX is)<|et U U is h0<|bc U (is.get h0 _) U (gS _ _)<|cJ U U<|Xb hC oP nr.1 JQ JR ir <| λv1 q1 v2 q2 h1 n1 e1 i1 nq1 vq1 i2 nq2 vq2 s1 s2=>aL U<|HW U U<|HW U U<|Ai <| λh2 n2 fB a2 e2=>Ai <| λh3 n3 lz a3 e3=>gH U U ((gw h3 n1 (h2 n1)).trans a2) (ff rfl rfl (fA i1.one)) <| λh4 a4 rk=>gH U U ((rk n2 (by omega)).trans ((IL (by omega)).trans a3)) (ff rfl rfl (fA i2.one)) <| λh5 a5 qh=>dQ (⟨⟨ak (by simp[Nat.testBit]),ak (by simp[Nat.testBit]),ak (by simp[Nat.testBit]),trivial⟩,⟨ak (by simp[Nat.testBit]),ak (by simp[Nat.testBit]),ak (by simp[Nat.testBit]),trivial⟩,⟨ak (by simp[Nat.testBit]),ak (by simp[Nat.testBit]),ak (by simp[Nat.testBit]),trivial⟩,trivial⟩) ?_;have Fl:df n1 (hp h3 n1 (h2 n1)) h4:=rk;have AP:df n2 h4 h5:=qh;have Gp:Ext (hp h2 n1 none) n2 h3 n3:=e3;have ag5:Ag n1 h1 h5:=(((((e2.ag.hp n1 none (Γ _)).ext Gp (by omega)).hp n1 (h2 n1) (Γ _)).aA Fl (Γ _)).aA AP (by omega));have lY:Ext h1 n1 h5 n3:=ag5.x (by omega);have i15:=i1.ext lY;have c20:Cl h5 n3 n1 [v1] 297:=⟨by omega,(AP n1 (by omega)).trans a4⟩;have e5:=e1.trans lY;have d4:=c4.ext e5;have d5:=c5.ext e5;have d12:=qP.ext e5;have do':=co.ext e5;have io:bj h5 n3 .u32 (.sl bo 0 L L) ds:=do'.qL uv;clear a2 a3 a4 a5 e2 e3 rk qh i2;have x5:=x.trans e5;have O9:∀{H:Hf},Ag n3 h5 H->cD H true 1 (.p n1 0)=some (.a [v1]):=λag=>cz (c20.ext (ag.x (Γ _))).2 rfl;have zz:=e5.1;have z15:=lY.1;refine eS<|bc U (d12.ld U _) (io.below (Γ _)) (ρ.dX io)<|cJ U U<|yR hC (Γ _) io (by omega) <| λv6 h6 n6 e6 i6 hb6 hs6=>Ah (kT rfl i6.cells i6.one)<|bc U (O9 e6.ag) (mB ((i15.ext e6).below (Γ _))) (mC (ρ.dX i15))<|gH U U ((d4.ext e6).2) (ff rfl rfl (fA i6.one)) <| λh7 a7 lZ=>gH U U ((Cl.aA (n:=n6) (d5.ext e6) lZ (by omega)).2) (ff rfl rfl (fA i15.one)) <| λh8 a8 tN=>dQ (⟨⟨ak (by simp[Nat.testBit]),dJ (O9 e6.ag) (cz ((lZ n1 (by have:=e1.1;omega)).trans (c20.ext e6).2) U),dJ (O9 (Ag.refl _ _)) (O9 e6.ag),trivial⟩,⟨ak (by simp[Nat.testBit]),ak (by simp[Nat.testBit]),ak (by simp[Nat.testBit]),trivial⟩,trivial⟩) ?_;have NC:df b4 h6 h7:=lZ;have Cu:df b5 h7 h8:=tN;refine aj ⟨_,Eg rfl (cz (l':=[v6]) ((Cu b4 (by omega)).trans a7) U) U (cz a8 rfl),?_⟩;have k6:v6.blk.num=bo.num:=by rw[hb6];rfl
 have z1:=e1.1;have z6:=e6.1;refine hQ v6 (dE ds) v1 q1 h8 n6 (((x5.trans e6).aA NC (by omega)).aA Cu (by omega)) ?_ ?_ nq1 vq1 (s1.imp id λh=>by omega)
 ·exact((i6.up z6).aA NC (Or.inr (by omega))).aA Cu (Or.inr (by omega))
 ·exact((i15.ext e6).aA NC (s1.imp id λh=>by omega)).aA Cu (s1.imp id λh=>by omega)
theorem ajt(hC:Cd C){va vs vA vB:V}{a A B ss:List Nat}{s size:Nat}(x:Ext hs ns h n)(A1:ns.num<=b4.num)(JM:b4.num<b5.num)(JQ:0<s)(JR:s<Bg)
 (c2:Cl h n b2 [va] 297)(ia:bj h n .u32 va a)(fX:a.length<900)(c4:Cl h n b4 [.ns] 297)(c5:Cl h n b5 [.ns] 297)(c6:Cl h n b6 [vs] 297)(is:bj h n .u32 vs [s])
 (c7:Cl h n b7 [vA] 297)(iA:bj h n .u32 vA A)(nA:Sm Bg A)(hlA:A.length<1000)
 (c8:Cl h n b8 [vB] 297)(iB:bj h n .u32 vB B)(nB:eK Bg B)(Gt:B.length=size)(mV:2<=size)(eQ:size<500)(c9:Cl h n b9 [.i .i64 (size:Nat)] 3)(Gq:Cl h n kZ [.i .u64 (B.getD (size - 1) 0:Nat)] 349)(Fm:Cl h n oT [.i .u64 (B.getD (size - 2) 0:Nat)] 349)
 (mw:Bg<=2*B.getD (size - 1) 0)
 (hQ:∀vq q v2 r2 h' n',Ext hs ns h' n'->bj h' n' .u32 vq q->bj h' n' .u32 v2 r2->eK Bg r2->val Bg r2=val Bg A % val Bg B / s->(v2=.ns\/ns.num<=v2.blk.num)->Q (.u [.a [vq],.a [v2]]) h' n'):
 WC C SH [(k2,.p b2 0),(k4,.p b4 0),(k5,.p b5 0),(k6,.p b6 0),(k7,.p b7 0),(k8,.p b8 0),(k9,.p b9 0),(aF,.p kZ 0),(aH,.p oT 0)] h n (fq [.cell k4 true 1,.cell k5 true 1] Q):=by
 have sD:0<val Bg B:=by have:=Wi (B:=Bg) (by decide) nB.1 Gt mV (by simp only[Bg]at mw;omega);have h2:0<Bg ^ (size - 2)*Bg:=Nat.mul_pos (Nat.pow_pos (by decide)) (by decide);omega
 refine θ<|Ω U<|χ U (c2.ld U _)<|aG U ia<|kp U U ((show(a.length:Int)+1=((a.length+1:Nat):Int) by omega)) ⟨by omega,by omega⟩<|uX U U (by omega) (by omega) <| λh1 n1 dZ a1 e1=>ea <| λh2 n2 fB a2 e2=>ct U U a2 U <| λh3 a3 b3=>ε ?_;rw[Aj]at a1;have x3:Ext h n h3 n2:=(e1.trans e2).aA b3 (by omega);have co:Cl h3 n2 n (nC .u32 (List.replicate (a.length+1) 0)) 342:=Cl.aA (n:=n2) (Cl.ext ⟨by omega,a1⟩ e2) b3 (by omega);refine θ<|kl U<|ea <| λh4 n4 nE a4 e4=>ct U U a4 U <| λh5 a5 qh=>ε ?_;have Zn:Ext h3 n2 h5 n4:=e4.aA qh (Γ _);have x5:=x3.trans Zn;have qP:Cl h5 n4 n1 [.sl n 0 (a.length+1) (a.length+1)] 295:=Cl.ext ⟨by omega,a3⟩ Zn;have dv:Dv h n h5 n4 n n1 n2 (a.length+1) .ns []:=⟨x5,qP,⟨by omega,a5⟩,⟨_,by simp,co.ext Zn⟩,bj.nil,eK.nil,Or.inl U⟩;have d7:=c7.ext x5;have iA5:=iA.ext x5;refine ν<|θ<|Ω U<|χ U (d7.ld U _)<|al U U<|Nq hC iA5 (by omega) ?_;intro bb e h6 n6 e6 a6 rf fM it;refine ε ?_;have y6:=e6.1;have zx:=x.1;have Pa:Dv h n h6 n6 n n1 n2 (a.length+1) .ns []:=⟨dv.ext.trans e6,dv.qP.ext e6,dv.lN.ext e6,by obtain⟨ds,g1,g2⟩:=dv.co;exact⟨ds,g1,g2.ext e6⟩,bj.nil,eK.nil,Or.inl U⟩;let I:Nat->Hf->K->Prop:=λj h' n'=>(bb.num<n'.num/\h' bb=some (.c [vA] e 0))/\∃vr r,Dv h n h' n' n n1 n2 (a.length+1) vr r/\(vr=.ns\/n6.num<vr.blk.num)/\val Bg r=val Bg (A.drop (A.length - j)) % val Bg B;have aju:∀{h1 m1 h2 m2 vr r},Dv h n h1 m1 n n1 n2 (a.length+1) vr r->Ext h1 m1 h2 m2->Dv h n h2 m2 n n1 n2 (a.length+1) vr r:=λs e=>⟨s.ext.trans e,s.qP.ext e,s.lN.ext e,by obtain⟨ds,g1,g2⟩:=s.co;exact⟨ds,g1,g2.ext e⟩,s.ir.ext e,s.Fp,s.sep⟩;refine aK<|BY U it I (λ_ _ _=>False) ?_ ?_ ?_ ?_ ?_ ?_ ?_ ?_
 ·rintro j h1 m1 h' n' ⟨⟨g2,g3⟩,vr,r,g4,gs,g5⟩ ex;exact⟨⟨fN g2 ex.1,by rw[ex.2 _ g2];exact g3⟩,vr,r,aju g4 ex,gs,g5⟩
 ·rintro j h1 m1 h' ⟨⟨g2,g3⟩,vr,r,g4,gs,g5⟩ bt;refine⟨⟨g2,by rw[bt _ (by omega)];exact g3⟩,vr,r,⟨g4.ext.aA bt (by omega),g4.qP.aA bt (by omega),g4.lN.aA bt (by omega),by obtain⟨ds,f1,f2⟩:=g4.co;exact⟨ds,f1,f2.aA bt (by omega)⟩,g4.ir.aA bt (gs.imp id λh=>by omega),g4.Fp,g4.sep⟩,gs,g5⟩
 ·rintro j h1 m1 ⟨g2,vr,r,g4,_⟩;exact⟨g2.1,g2.2,iA.ext g4.ext⟩
 ·intro j hj;rw[wO];rfl
 ·intro h' bt;have O0:n6.succ.num=n6.num+1:=K.fH n6;refine⟨⟨by omega,by rw[bt _ (by omega)];exact a6⟩,.ns,[],⟨(Pa.ext.aA bt (by omega)).succ,(Pa.qP.aA bt (by omega)).up (by omega),(Pa.lN.aA bt (by omega)).up (by omega),by obtain⟨ds,f1,f2⟩:=Pa.co;exact⟨ds,f1,(f2.aA bt (by omega)).up (by omega)⟩,bj.nil,eK.nil,Or.inl U⟩,Or.inl U,?_⟩;rw[rA,nH];simp[val]
 ·rintro j hj h7 n7 E1 wQ ⟨⟨g2,g3⟩,vr,r,g4,gs,g5⟩ j6;have fb:j<A.length:=by rw[tG]at hj;exact hj
  rw[wO]at j6;simp only[mS,rq]at j6;subst j6;have hi:A.length - 1 - j<A.length:=by omega
  rw[show A.length - j=(A.length - 1 - j)+1 by omega]at g5;have tF:A.length - (j+1)=A.length - 1 - j:=by omega
  generalize A.length - 1 - j=i at*;rw[jt hi];refine θ<|γ U<|ε<|aR<|γ U<|ε ⟨rfl,rfl,λh8 tN=>?_⟩;have g4':Dv h n h8 n7 n n1 n2 (a.length+1) vr r:=⟨g4.ext.aA tN (by omega),g4.qP.aA tN (by omega),g4.lN.aA tN (by omega),by obtain⟨ds,f1,f2⟩:=g4.co;exact⟨ds,f1,f2.aA tN (by omega)⟩,g4.ir.aA tN (gs.imp id λh=>by omega),g4.Fp,g4.sep⟩;refine ae (ajd hC (i:=i) (Γ _) (by omega) (by omega) c8 iB nB Gt mV eQ c9 Gq Fm mw g4' (by rw[g5];exact mb _ sD) (nA.get hi) ?_) ⟨rfl,rfl,rfl,rfl,rfl,rfl,rfl,rfl,trivial⟩;intro m7 r' h' n' E' s' k' NB oh;have z1:=k'.1;refine⟨by omega,k'.2 n6 (by omega) (by omega) (by omega),⟨by omega,(k'.2 bb g2 (by omega) (by omega)).trans ((tN bb (by omega)).trans g3)⟩,m7,r',s',NB.imp id λh=>by omega,?_⟩;rw[tF,oh,As A hi,g5,Mx]
 ·rintro h' n' wQ ⟨⟨g2,g3⟩,vr,r,g4,gs,g5⟩;rw[tG,qp,jS]at g5;obtain⟨ds,uv,f2⟩:=g4.co;have xx:=x.trans g4.ext;have hlr:r.length<=size:=by rw[←Gt];exact pU g4.Fp.2 nB.1 (by decide) (by rw[g5];exact fZ (mb _ sD))
  have z5:=c5.1;refine ae (ajp hC xx A1 JM JQ JR (c4.ext g4.ext) (c5.ext g4.ext) (c6.ext g4.ext) (is.ext g4.ext) g4.qP f2 uv (by omega) (by omega) g4.lN g4.ir g4.Fp (by omega) (λvq q v2 r2 A3 oe e1 i1 i2 Gw F6 s2=>hQ vq q v2 r2 A3 oe e1 i1 i2 Gw (by rw[F6,g5]) s2)) ⟨rfl,rfl,rfl,rfl,rfl,trivial⟩
 ·rintro ex h' n' qG wQ hf;exact hf.elim
end
end
section
variable {C:Nat->Option bP}{h:Hf}{n:K}{Q:V->Hf->K->Prop}
section
variable {hs:Hf}{ns b2 b3 b4 b5:K}
theorem ajv(hC:Cd C){va vb:V}{a b:List Nat}(x:Ext hs ns h n)(A1:ns.num<=b4.num)(JM:b4.num<b5.num)
 (c2:Cl h n b2 [va] 297)(ia:bj h n .u32 va a)(fX:a.length<400)(na:eK Bg a)(c3:Cl h n b3 [vb] 297)(ib:bj h n .u32 vb b)(gG:b.length<400)(nb:eK Bg b)(fM:2<=b.length)(c4:Cl h n b4 [.ns] 297)(c5:Cl h n b5 [.ns] 297)
 (hQ:∀vq q v2 r2 h' n',Ext hs ns h' n'->bj h' n' .u32 vq q->bj h' n' .u32 v2 r2->eK Bg r2->val Bg r2=val Bg a % val Bg b->(v2=.ns\/ns.num<=v2.blk.num)->Q (.u [.a [vq],.a [v2]]) h' n'):
 WC C SI [(k2,.p b2 0),(k3,.p b3 0),(k4,.p b4 0),(k5,.p b5 0)] h n (fq [.cell k4 true 1,.cell k5 true 1] Q):=by
 have ψ:b.length - 1<b.length:=by omega
 have g1:cD h false 1 (.p vb.blk (vb.off+(b.length - 1)*1))=some (.i .u32 (b.getD (b.length - 1) 0:Nat)):=by rw[jt ψ];exact ib.get ψ 1
 have q1:b.getD (b.length - 1) 0<Bg:=nb.1.getD (by decide) _;have JO:=q1;simp only[Bg]at JO;generalize hbt:b.getD (b.length - 1) 0=bt at*;obtain⟨s,ND⟩:∃s,s=1000000000 / (bt+1):=⟨_,rfl⟩;have kh:s<=1000000000:=by rw[ND];exact Nat.div_le_self _ _
 have z2:=c2.1;have z3:=c3.1;refine θ<|Ω U<|χ U (c3.ld U _)<|Ω U<|χ U (c3.ld U _)<|aG U ib<|kQ U U (show(b.length:Int) - 1=((b.length - 1:Nat):Int) by omega) ⟨by omega,by omega⟩<|bh U U ib ψ<|χ U g1<|pR U ⟨by omega,by omega⟩<|kp U U (show(bt:Int)+1=((bt+1:Nat):Int) by omega) ⟨by omega,by omega⟩<|Ej (a:=1000000000) (b:=bt+1) U U (by omega) ⟨sI _,by rw[←ND];omega⟩<|?_;rw[←ND];refine pR U ⟨by omega,by omega⟩<|fx U <| λh1 n1 dZ a1 e1=>kl (kT (v:=.sl n 0 1 1) U U U)<|ea <| λh2 n2 fB a2 e2=>ct U U a2 (ff rfl rfl rfl) <| λh3 a3 wT=>ε ?_;have EU:df n1 h2 h3:=wT;have kL:Ext h n h3 n2:=(e1.trans e2).aA EU (by omega);have is3:bj h3 n1 .u32 (.sl n 0 1 1) [s]:=(bj.ext (n:=n1) (ρ.whole (len:=1) (by omega) a1 rfl) (⟨Γ _,λk hk=>(EU k (by omega)).trans (e2.2 k hk)⟩));have c6:Cl h3 n2 n1 [.sl n 0 1 1] 297:=⟨by omega,a3⟩;have d2:=c2.ext kL;have d3:=c3.ext kL;have qM:=ia.ext kL;have qN:=ib.ext kL;have AS:bj h3 n2 .u32 (.sl n 0 1 1) [s]:=is3.up (by omega);have l3:∀{H:Hf},Ag n2 h3 H->cD H true 1 (.p b3 0)=some (.a [vb]):=λag=>cz (d3.ext (ag.x (Γ _))).2 rfl;have l6:∀{H:Hf},Ag n2 h3 H->cD H true 1 (.p n1 0)=some (.a [.sl n 0 1 1]):=λag=>cz (c6.ext (ag.x (Γ _))).2 rfl;have wX:∀{l:List Nat},eK Bg l->val Bg l=val Bg b*s->l.length=b.length/\Bg<=2*l.getD (b.length - 1) 0/\1<=s/\s<Bg:=λhn hv=>
  agc (B:=Bg) (H:=500000000) (by decide) (by decide) nb (by omega) (by rw[hbt,ND]) hn hv
 have JR:s<Bg:=by
  have h1:s<=1000000000:=kh;rcases jR s Bg with h | h
  ·exact h
  ·exfalso;have aqq:0<bt:=by
    have bC:b≠[]:=λe=>by rw[e]at fM;simp at fM
    have:=nb.2 bC;rw[List.getLast_eq_getElem,←jt ψ]at this;omega
   have:s*(bt+1)<=1000000000:=by rw[ND];exact Nat.div_mul_le_self _ _
   have h3:Bg*2<=s*(bt+1):=vO h (by omega);simp only[Bg]at h3;omega
 have sS:Sm Bg [s]:=Sm.cons JR Sm.nil;clear g1 a1 a2 a3 wT e1 e2;refine eS<|bc U (cz d2.2 rfl) (mB (qM.below (Γ _))) (mC (ρ.dX qM))<|bc U (l6 (Ag.refl _ _)) (mB (AS.below (Γ _))) (mC (ρ.dX AS))<|cJ U U<|Nt hC (by omega) (by simp) na.1 sS qM AS <| λv4 p4 h4 n4 e4 i4 np4 vl4 aqr=>bc U (l3 e4.ag) (mB ((qN.ext e4).below (Γ _))) (mC (ρ.dX qN))<|bc U (l6 e4.ag) (mB ((AS.ext e4).below (Γ _))) (mC (ρ.dX AS))<|cJ U U<|Nt hC (by omega) (by simp) nb.1 sS (qN.ext e4) (AS.ext e4) <| λv5 p5 h5 n5 e5 i5 Pb vl5 NF=>Ai <| λh6 n6 pz a6 e6=>Ai <| λh7 n7 wQ a7 e7=>gH U U ((gw h7 n5 (h6 n5)).trans a6) (ff rfl rfl (fA i4.one)) <| λh8 a8 tN=>gH U U ((tN n6 (by omega)).trans ((IL (by omega)).trans a7)) (ff rfl rfl (fA i5.one)) <| λh9 a9 b9'=>dQ (⟨⟨ak (by simp[Nat.testBit]),ak (by simp[Nat.testBit]),ak (by simp[Nat.testBit]),dJ (l6 (((Ag.refl _ _).hp n6 none (by have:=e4.1;have:=e5.1;omega)).hp n5 none (by have:=e4.1;have:=e5.1;omega))) (l6 ((e4.ag.hp n6 none (by have:=e4.1;have:=e5.1;omega)).hp n5 none (by have:=e4.1;have:=e5.1;omega))),trivial⟩,⟨ak (by simp[Nat.testBit]),ak (by simp[Nat.testBit]),ak (by simp[Nat.testBit]),dJ (l3 (((Ag.refl _ _).hp n6 none (by have:=e4.1;have:=e5.1;omega)).hp n5 none (by have:=e4.1;have:=e5.1;omega))) (l3 ((e4.ag.hp n6 none (by have:=e4.1;have:=e5.1;omega)).hp n5 none (by have:=e4.1;have:=e5.1;omega))),trivial⟩,⟨ak (by simp[Nat.testBit]),ak (by simp[Nat.testBit]),ak (by simp[Nat.testBit]),ak (by simp[Nat.testBit]),trivial⟩,⟨ak (by simp[Nat.testBit]),ak (by simp[Nat.testBit]),ak (by simp[Nat.testBit]),ak (by simp[Nat.testBit]),trivial⟩,trivial⟩) ?_;have z4:=e4.1;have z5:=e5.1;have Cu:df n5 (hp h7 n5 (h6 n5)) h8:=tN;have Xo:df n6 h8 h9:=b9';have NG:Ext (hp h6 n5 none) n6 h7 n7:=e7;have ag9:Ag n5 h5 h9:=(((((e6.ag.hp n5 none (Γ _)).ext NG (by omega)).hp n5 (h6 n5) (Γ _)).aA Cu (Γ _)).aA Xo (by omega));have Pc:Ext h5 n5 h9 n7:=ag9.x (by omega);have e39:=(e4.trans e5).trans Pc;have c7:Cl h9 n7 n5 [v4] 297:=⟨by omega,(Xo n5 (by omega)).trans a8⟩;have c8:Cl h9 n7 n6 [v5] 297:=⟨by omega,a9⟩;have i4':=(i4.ext e5).ext Pc;have F8:=i5.ext Pc;clear a6 a7 a8 a9 e6 e7 tN b9';have z59:=Pc.1;obtain⟨Pd,ht5,JQ,_⟩:=wX Pb (by rw[vl5];simp only[val,kM,j8]);rw[←Pd]at ht5;refine θ<|Ω U<|χ U (c8.ld U _)<|aG U F8<|ea <| λlj eV aqs A6 nG=>ct U U A6 U <| λoX F2 Xp=>ε ?_;have ajA:df n7 lj oX:=Xp;have IQ:Ext h9 n7 oX eV:=nG.aA ajA (Γ _);have c9:Cl oX eV n7 [.i .i64 (p5.length:Nat)] 3:=⟨by omega,F2⟩;have c8':=c8.ext IQ;have AT:=F8.ext IQ;clear A6 F2 nG Xp;have NH:p5.length - 1<p5.length:=by omega
 have u9:p5.length - 2<p5.length:=by omega
 have Zo:∀{H:Hf},Ag eV oX H->cD H false 1 (.p v5.blk (v5.off+(p5.length - 1)*1))=some (.i .u32 (p5.getD (p5.length - 1) 0:Nat)):=λag=>by rw[jt NH];exact(AT.ext (ag.x (Γ _))).get NH 1
 have NI:∀{H:Hf},Ag eV oX H->cD H false 1 (.p v5.blk (v5.off+(p5.length - 2)*1))=some (.i .u32 (p5.getD (p5.length - 2) 0:Nat)):=λag=>by rw[jt u9];exact(AT.ext (ag.x (Γ _))).get u9 1
 have l8:∀{H:Hf},Ag eV oX H->cD H false 1 (.p n6 0)=some v5:=λag=>dV (c8'.ext (ag.x (Γ _))).2 rfl _;have l9:∀{H:Hf},Ag eV oX H->cD H false 1 (.p n7 0)=some (.i .i64 (p5.length:Nat)):=λag=>dV (c9.ext (ag.x (Γ _))).2 rfl _;have qt1:p5.getD (p5.length - 1) 0<1000000000:=Pb.1.getD (by decide) _;have qt2:p5.getD (p5.length - 2) 0<1000000000:=Pb.1.getD (by decide) _;have be5:=AT.below (Γ eV.num);have aqt:p5.length<1000:=by omega
 refine eS<|dG U<|bc U (l8 (Ag.refl _ _)) be5 (ρ.dX AT)<|bc U (l9 (Ag.refl _ _)) U (gS _ _)<|B0 U U ((show(p5.length:Int) - 1=((p5.length - 1:Nat):Int) by omega)) ⟨by omega,by omega⟩<|et U U AT NH<|bc U (Zo (Ag.refl _ _)) U (gS _ _)<|uV U ⟨by omega,by omega⟩<|dG U<|bc U (l8 (Ag.refl _ _)) be5 (ρ.dX AT)<|bc U (l9 (Ag.refl _ _)) U (gS _ _)<|B0 U U ((show(p5.length:Int) - 2=((p5.length - 2:Nat):Int) by omega)) ⟨by omega,by omega⟩<|et U U AT u9<|bc U (NI (Ag.refl _ _)) U (gS _ _)<|uV U ⟨by omega,by omega⟩<|Ai <| λkm Be ado JE mI=>Ai <| λsF Gv aqu MP lO=>gH U U ((gw sF eV (km eV)).trans JE) U <| λBc Ze pX=>gH U U ((pX Be (by omega)).trans ((IL (by omega)).trans MP)) U <| λux Zm Fv=>dQ (⟨⟨ak (by simp[Nat.testBit]),dJ (NI (((((mI.ag.hp eV none (Γ _)).ext lO (by omega)).hp eV (km eV) (Γ _)).hp Be none (by omega)).hp eV none (Γ _))) (NI ((((((mI.ag.hp eV none (Γ _)).ext lO (by omega)).hp eV (km eV) (Γ _)).aA pX (Γ _)).hp Be none (by omega)).hp eV none (Γ _))),trivial⟩,⟨ak (by simp[Nat.testBit]),dJ (l9 (((((mI.ag.hp eV none (Γ _)).ext lO (by omega)).hp eV (km eV) (Γ _)).hp Be none (by omega)).hp eV none (Γ _))) (l9 ((((((mI.ag.hp eV none (Γ _)).ext lO (by omega)).hp eV (km eV) (Γ _)).aA pX (Γ _)).hp Be none (by omega)).hp eV none (Γ _))),trivial⟩,⟨ak (by simp[Nat.testBit]),dJ (l8 (((((mI.ag.hp eV none (Γ _)).ext lO (by omega)).hp eV (km eV) (Γ _)).hp Be none (by omega)).hp eV none (Γ _))) (l8 ((((((mI.ag.hp eV none (Γ _)).ext lO (by omega)).hp eV (km eV) (Γ _)).aA pX (Γ _)).hp Be none (by omega)).hp eV none (Γ _))),trivial⟩,⟨ak (by simp[Nat.testBit]),ak (by simp[Nat.testBit]),trivial⟩,⟨ak (by simp[Nat.testBit]),ak (by simp[Nat.testBit]),trivial⟩,⟨ak (by simp[Nat.testBit]),ak (by simp[Nat.testBit]),trivial⟩,trivial⟩) ?_;have ajC:df eV (hp sF eV (km eV)) Bc:=pX;have Xq:df Be Bc ux:=Fv;have ajD:Ext (hp km eV none) Be sF Gv:=lO;have ajE:Ag eV oX ux:=(((((mI.ag.hp eV none (Γ _)).ext ajD (by omega)).hp eV (km eV) (Γ _)).aA ajC (Γ _)).aA Xq (by omega));have Xr:Ext oX eV ux Gv:=ajE.x (by omega);have Gq:Cl ux Gv eV [.i .u64 (p5.getD (p5.length - 1) 0:Nat)] 349:=⟨by omega,(Xq eV (by omega)).trans Ze⟩;have Fm:Cl ux Gv Be [.i .u64 (p5.getD (p5.length - 2) 0:Nat)] 349:=⟨by omega,Zm⟩;have Fx:=IQ.trans Xr;have NJ:=e39.trans Fx;have Fy:=kL.trans NJ;have aqv:=IQ.1;have hp4:val Bg p4=val Bg a*s:=by rw[vl4];simp only[val,kM,j8]
 have hp5:val Bg p5=val Bg b*s:=by rw[vl5];simp only[val,kM,j8]
 have aqw:p4.length<=a.length+1:=by apply IF (B:=Bg) np4.2 (by decide);rw[hp4,gW];have h1:=pS na.1;have h3:val Bg a*s<=val Bg a*Bg:=rp _ (by omega);have h4:val Bg a*Bg<Bg ^ a.length*Bg:=Nat.mul_lt_mul_of_pos_right h1 (by decide);omega
 refine ae (ajt (ss:=[]) hC (x.trans Fy) A1 JM JQ JR (c2.ext Fy) (ia.ext Fy) (by omega) (c4.ext Fy) (c5.ext Fy) (c6.ext NJ) (AS.ext NJ) (c7.ext Fx) (i4'.ext Fx) np4.1 (by omega) (c8.ext Fx) (F8.ext Fx) Pb rfl (by omega) (by omega) (c9.ext Xr) Gq Fm ht5 ?_) ⟨rfl,rfl,rfl,rfl,rfl,rfl,rfl,rfl,rfl,trivial⟩;intro vq q v2 r2 h' n' e1 i1 i2 Gw F6 s2;refine hQ vq q v2 r2 h' n' e1 i1 i2 Gw ?_ s2;rw[F6,hp4,hp5,Nat.mul_mod_mul_right,Nat.mul_div_cancel _ JQ]
end
theorem ajG(hC:Cd C){va vb:V}{a b:List Nat}(fX:a.length<400)(gG:b.length<400)(na:eK Bg a)(nb:eK Bg b)(eJ:b≠[])(ia:bj h n .u32 va a)(ib:bj h n .u32 vb b)
 (hQ:∀vq q v2 r2 h' n',Ext h n h' n'->bj h' n' .u32 vq q->bj h' n' .u32 v2 r2->eK Bg r2->val Bg r2=val Bg a % val Bg b->(v2=va\/v2=.ns\/n.num<=v2.blk.num)->Q (.u [.a [vq],.a [v2]]) h' n'):τ C (.f 299 [] []) [.a [va],.a [vb]] h n Q:=by
 refine τ.go hC.f299 U ?_;refine θ<|eL U U (fA ia.one) <| λh1 n1 dZ a1 e1=>eL U U (fA ib.one) <| λh2 n2 fB a2 e2=>ea <| λh3 n3 lz a3 e3=>ea <| λh4 n4 nE a4 e4=>ε ?_;have x4:=((e1.trans e2).trans e3).trans e4;have c2:Cl h4 n4 n [va] 297:=Cl.ext (Cl.ext (Cl.ext ⟨by omega,a1⟩ e2) e3) e4;have c3:Cl h4 n4 n1 [vb] 297:=Cl.ext (Cl.ext ⟨by omega,a2⟩ e3) e4;have c4:Cl h4 n4 n2 [.ns] 297:=Cl.ext ⟨by omega,a3⟩ e4;have c5:Cl h4 n4 n3 [.ns] 297:=⟨by omega,a4⟩;have Gn:=ia.ext x4;have ib4:=ib.ext x4;clear a1 a2 a3 a4;refine ν<|θ<|χ U (cz c2.2 rfl)<|χ U (cz c3.2 rfl)<|al U U<|W7 hC (by omega) (by omega) na nb Gn ib4 <| λh5 n5 e5=>aP U U<|ε ?_;have x5:=x4.trans e5;have z5:=e5.1;have d2:=c2.ext e5;have d3:=c3.ext e5;have d4:=c4.ext e5;have d5:=c5.ext e5;have Gx:=Gn.ext e5;have uo:=ib4.ext e5;by_cases ψ:val Bg a<val Bg b
 ·have tE:gJ (val Bg a) (val Bg b) = -1:=by unfold gJ;rw[az ψ]
  rw[tE];refine aD U (by simp) ?_;have l2:cD h5 true 1 (.p n 0)=some (.a [va]):=cz d2.2 rfl;refine eS<|Ah U<|bc U l2 (mB (Gx.below (Γ _))) (mC (ρ.dX Gx))<|gH U U d4.2 (ff rfl rfl rfl) <| λh6 a6 b6=>gH U U ((Cl.aA (n:=n5) d5 b6 (by omega)).2) (ff rfl rfl (fA Gx.one)) <| λh7 a7 b7=>dQ (⟨⟨ak (by simp[Nat.testBit]),dJ l2 (cz ((b6 n (by omega)).trans d2.2) U),trivial⟩,trivial⟩) ?_;have oB:df n2 h5 h6:=b6;have lZ:df n3 h6 h7:=b7;refine aj ⟨_,Eg rfl (cz (l':=[.ns]) ((lZ n2 (by omega)).trans a6) U) U (cz a7 rfl),?_⟩;have e7:Ext h n h7 n5:=(x5.aA oB (by omega)).aA lZ (by omega);exact hQ .ns [] va a h7 n5 e7 bj.nil (ia.ext e7) na (zw ψ).symm (Or.inl U)
 ·have tE:¬ gJ (val Bg a) (val Bg b)<0:=by rw[WH];exact ψ
  refine aE U (by simpa using tE)<|ao ?_;refine ν<|θ<|Ω U<|χ U (d3.ld U _)<|aG U uo<|bQ U U<|ε ?_;have iL:0<b.length:=List.length_pos_iff.2 eJ;by_cases h1:b.length=1
  ·refine aD U (by simp[h1]) ?_;have q:=nb.1.get iL;have rf:val Bg b=b[0]:=by
    match b,h1 with
    | [y],_=>simp[val]
   have ajI:0<b[0]:=by
    have:=nb.2 eJ
    match b,h1 with
    | [y],_=>simp only[List.getLast_singleton]at this;exact xy this
   refine eS<|bc U (cz d2.2 rfl) (mB (Gx.below (Γ _))) (mC (ρ.dX Gx))<|dG U<|bc U (d3.ld U _) (uo.below (Γ _)) (ρ.dX uo)<|et U U uo iL<|bc U (uo.get iL _) U (gS _ _)<|cJ U U<|Xb hC (by omega) na.1 ajI q Gx <| λv1 q1 v2 r2 h6 n6 e6 i1 nq1 vq1 i2 Gw vr2 s1 s2=>HW U U<|HW U U<|gH U U ((d4.ext e6).2) (ff rfl rfl (fA i1.one)) <| λh7 a7 b7=>gH U U ((Cl.aA (n:=n6) (d5.ext e6) b7 (by omega)).2) (ff rfl rfl (fA i2.one)) <| λh8 a8 b8=>dQ (⟨⟨ak (by simp[Nat.testBit]),ak (by simp[Nat.testBit]),ak (by simp[Nat.testBit]),trivial⟩,⟨ak (by simp[Nat.testBit]),ak (by simp[Nat.testBit]),ak (by simp[Nat.testBit]),trivial⟩,⟨ak (by simp[Nat.testBit]),ak (by simp[Nat.testBit]),ak (by simp[Nat.testBit]),trivial⟩,trivial⟩) ?_;have lZ:df n2 h6 h7:=b7;have tN:df n3 h7 h8:=b8;refine aj ⟨_,Eg rfl (cz (l':=[v1]) ((tN n2 (by omega)).trans a7) U) U (cz a8 rfl),?_⟩;have e8:Ext h n h8 n6:=((x5.trans e6).aA lZ (by omega)).aA tN (by omega);exact hQ v1 q1 v2 r2 h8 n6 e8 ((i1.aA lZ (s1.imp id λh=>by omega)).aA tN (s1.imp id λh=>by omega)) ((i2.aA lZ (s2.imp id λh=>by omega)).aA tN (s2.imp id λh=>by omega)) Gw (by rw[vr2,rf]) (Or.inr (s2.imp id λh=>by omega))
  ·refine aE U (by simp<;>omega)<|ao ?_;refine ae (ajv hC (hs:=h) (ns:=n) x5 (by omega) (by omega) d2 Gx fX na d3 uo gG nb (by omega) d4 d5 ?_) ⟨rfl,rfl,rfl,rfl,trivial⟩;intro vq q v2 r2 h' n' e1 i1 i2 Gw F6 s2;exact hQ vq q v2 r2 h' n' e1 i1 i2 Gw F6 (Or.inr s2)
end
section
variable {C:Nat->Option bP}{h:Hf}{n:K}{Q:V->Hf->K->Prop}
theorem ajJ(hC:Cd C){h0:Hf}{n0 b2 b3 b4:K}(qG:n0.num<=b2.num)(MS:n0.num<=b3.num)(OT:n0.num<=b4.num)(h23:b2.num≠b3.num)(h24:b2.num≠b4.num)(h34:b3.num≠b4.num){G:Nat}
 {Q1:Ex->Env->Hf->K->Prop}(hQ:∀va g h n E',Ext h0 n0 h n->Cl h n b2 [va] 297->Cl h n b4 [.ns] 297->bj h n .u32 va g->g.length<400->eK Bg g->val Bg g=G->(va=.ns\/va.blk.num≠b4.num)->da [(k2,.p b2 0),(k4,.p b4 0)] E'->Q1 .normal E' h n):
 ∀(m:Nat) (va vb:V) (a b:List Nat) (h:Hf) (n:K),val Bg b<=m->a.length<400->b.length<400->eK Bg a->eK Bg b->Nat.gcd (val Bg a) (val Bg b)=G->bj h n .u32 va a->bj h n .u32 vb b->(va=.ns\/va.blk.num≠b2.num/\va.blk.num≠b3.num/\va.blk.num≠b4.num)->(vb=.ns\/vb.blk.num≠b2.num/\vb.blk.num≠b3.num/\vb.blk.num≠b4.num)->Ext h0 n0 h n->Cl h n b2 [va] 297->Cl h n b3 [vb] 297->Cl h n b4 [.ns] 297->WC C SB [(k2,.p b2 0),(k3,.p b3 0),(k4,.p b4 0)] h n (blk 0 Q1):=by
 intro m
 induction m with
 | zero=>
  intro va vb a b h n hm fX gG ha hb hG ia ib ET C0 he c2 c3 c4;have eJ:b=[]:=(val_zero (B:=Bg) hb.2 (by decide)).1 (by omega);subst eJ;refine aQ ?_;refine ν<|ν<|aR<|χ U (cz c3.2 rfl)<|al U U<|Fh hC ib (by omega) <| λh1 n1 e1=>dR U<|ε ?_;exact aE U U<|bW (hQ va a h1 n1 _ (he.trans e1) (c2.ext e1) (c4.ext e1) (ia.ext e1) fX ha (by simpa[val]using hG) (ET.imp id λh=>h.2.2) ⟨rfl,rfl,trivial⟩)
 | succ m ih=>
  intro va vb a b hA nA hm fX gG ha hb hG ia ib ET C0 he c2 c3 c4;refine aQ ?_;refine ν<|ν<|aR<|χ U (cz c3.2 rfl)<|al U U<|Fh hC ib (by omega) <| λh n e1=>dR U<|ε ?_;replace he:=he.trans e1;replace c2:=c2.ext e1;replace c3:=c3.ext e1;replace c4:=c4.ext e1;replace ia:=ia.ext e1;replace ib:=ib.ext e1;clear e1 hA nA;by_cases eJ:b=[]
  ·subst eJ;exact aE U U<|bW (hQ va a h n _ he c2 c4 ia fX ha (by simpa[val]using hG) (ET.imp id λh=>h.2.2) ⟨rfl,rfl,trivial⟩)
  ·have iL:0<b.length:=by cases b with | nil=>exact absurd rfl eJ | cons=>simp
   refine aD U (by simp<;>omega)<|ao ?_;have F7:0<val Bg b:=xy λe=>eJ ((val_zero (B:=Bg) hb.2 (by decide)).1 e);refine aK<|θ<|χ U (cz c2.2 rfl)<|χ U (cz c3.2 rfl)<|al U U<|ajG hC fX gG ha hb eJ ia ib <| λvq q vr r h1 n1 e1 iq ir hr m7 ur=>γ U<|dj U U<|dj U U<|ea <| λh2 n2 fB a2 e2=>ea <| λh3 n3 lz a3 e3=>ct U U ((Cl.ext (n:=n2) ⟨by omega,a2⟩ e3).2) (ff rfl rfl (fA iq.one)) <| λh4 a4 t4=>ct U U ((Cl.aA (n:=n3) ⟨by omega,a3⟩ t4 (by omega)).2) (ff rfl rfl (fA ir.one)) <| λh5 a5 t5=>ε ?_;have g2:=c2.1;have g3:=c3.1;have g4:=c4.1;have lY:Ext h1 n1 h5 n3:=((e2.trans e3).aA t4 (Γ _)).aA t5 (by omega);have d2:=(c2.ext e1).ext lY;have d3:=(c3.ext e1).ext lY;have d4:=(c4.ext e1).ext lY;have l3:cD h5 true 1 (.p b3 0)=some (.a [vb]):=cz d3.2 rfl;have l6:cD h5 true 1 (.p n2 0)=some (.a [vr]):=cz a5 rfl;have uo:=(ib.ext e1).ext lY;have F9:=ir.ext lY;have g1:=e1.1;refine wj<|bc U l3 (mB (ρ.below uo (Γ _))) (mC (ρ.dX uo))<|bc U l6 (mB (ρ.below F9 (Γ _))) (mC (ρ.dX F9))<|gH U U d2.2 (ff rfl rfl (fA ib.one)) <| λh6 a6 b6=>gH U U ((d3.aA b6 (by omega)).2) (ff rfl rfl (fA ir.one)) <| λh7 a7 b7=>dQ (⟨⟨ak (by simp[Nat.testBit]),dJ l6 (cz ((b6 _ (by omega)).trans a5) U),trivial⟩,⟨ak (by simp[Nat.testBit]),ak (by simp[Nat.testBit]),trivial⟩,trivial⟩) ?_;have Ga:h7 b2=some (.c [vb] 297 0):=(b7 _ (by omega)).trans a6;have oB:df b2 h5 h6:=b6;have lZ:df b3 h6 h7:=b7;have Gb:h7 b3=some (.c [vr] 297 0):=a7;have BI:=mb (val Bg a) F7;have oP:r.length<400:=by have:=pU (B:=Bg) hr.2 hb.1 (by decide) (by rw[m7];exact fZ BI);omega
   have Gc:vr=.ns\/vr.blk.num≠b2.num/\vr.blk.num≠b3.num/\vr.blk.num≠b4.num:=by
    rcases ur with h | h | h
    ·rw[h];exact ET
    ·exact Or.inl h
    ·exact Or.inr ⟨by omega,by omega,by omega⟩
   refine ae (ih vb vr b r h7 n3 (by omega) gG oP hb hr ?_ ((uo.aA oB (C0.imp id λh=>h.1)).aA lZ (C0.imp id λh=>h.2.1)) ((F9.aA oB (Gc.imp id λh=>h.1)).aA lZ (Gc.imp id λh=>h.2.1)) C0 Gc (((he.trans (e1.trans lY)).aA oB qG).aA lZ MS) ⟨d2.1,Ga⟩ ⟨d3.1,Gb⟩ ((d4.aA oB (by omega)).aA lZ (by omega))) ⟨rfl,rfl,rfl,trivial⟩;rw[m7,←hG,Nat.gcd_comm (val Bg a),Nat.gcd_rec (val Bg b) (val Bg a),Nat.gcd_comm]
theorem ajK(hC:Cd C){va vb:V}{a b:List Nat}(fX:a.length<400)(gG:b.length<400)(ha:eK Bg a)(hb:eK Bg b)(ia:bj h n .u32 va a)(ib:bj h n .u32 vb b)
 (hQ:∀vg g h' n',Ext h n h' n'->bj h' n' .u32 vg g->g.length<400->eK Bg g->val Bg g=Nat.gcd (val Bg a) (val Bg b)->Q (.a [vg]) h' n'):τ C (.f 253 [] []) [.a [va],.a [vb]] h n Q:=by
 refine τ.go hC.f253 U ?_;refine θ<|eL U U (fA ia.one) <| λh1 n1 dZ a1 e1=>eL U U (fA ib.one) <| λh2 n2 fB a2 e2=>ea <| λh3 n3 lz a3 e3=>ε ?_;have kL:=(e1.trans e2).trans e3;have c2:Cl h3 n3 n [va] 297:=(Cl.ext ⟨by omega,a1⟩ e2).ext e3;have c3:Cl h3 n3 n1 [vb] 297:=Cl.ext ⟨by omega,a2⟩ e3;have c4:Cl h3 n3 n2 [.ns] 297:=⟨by omega,a3⟩;refine ν<|aK<|ae (ajJ hC (h0:=h) (n0:=n) (b2:=n) (b3:=n1) (b4:=n2) (Γ _) (by omega) (by omega) (by omega) (by omega) (by omega) ?_ _ va vb a b h3 n3 (Γ _) fX gG ha hb rfl (ia.ext kL) (ib.ext kL) ((ia.xT).imp id λh=>⟨by omega,by omega,by omega⟩) ((ib.xT).imp id λh=>⟨by omega,by omega,by omega⟩) kL c2 c3 c4) ⟨rfl,rfl,rfl,trivial⟩;intro vg g h6 n6 E6 x6 d2 d4 i6 l6 r6 v6 u6 s6;refine dB s6 ?_;refine θ<|χ U (cz d2.2 rfl)<|ct U U d4.2 (ff rfl rfl (fA i6.one)) <| λh7 a7 b7=>ε ?_;refine aj ⟨_,kP rfl (cz a7 rfl),?_⟩;exact hQ vg g h7 n6 (x6.aA b7 (by omega)) (i6.aA b7 u6) l6 r6 v6
end
section
variable {C:Nat->Option bP}{h:Hf}{n:K}{Q:V->Hf->K->Prop}
def chunk(s:S)(i:Nat):S:=(s.take (s.length - 9*i)).drop (s.length - 9*i - 9)
def Fz(s:S):List (List V):=(List.range ((s.length+8) / 9)).map λi=>[st (chunk s i)]
theorem IS(s:S):(Fz s).length=(s.length+8) / 9:=by simp[Fz]
theorem NK(s:S){i:Nat}(hi:i<(Fz s).length):(Fz s)[i]=[st (chunk s i)]:=by simp[Fz]
theorem ajL(hC:Cd C){s:S}(hlen:s.length<1000000){b:K}:RS C (.f 326 [] [.p b 0]) b (some (.c [st s] 9 0)) (Fz s):=by
 intro y I D h n hE hB gz tx hS h0;refine τ.go hC.f326 U ?_;refine aK ?_;have key:∀(m i:Nat) (h:Hf) (n:K),(s.length+8) / 9 - i=m->i<=(s.length+8) / 9->b.num<n.num->h b=some (.c [st (s.take (s.length - 9*i))] 9 0)->I i h n->WC C Sz [(k0,y),(k1,.p b 0)] h n (blk 0 (fq [] (λv h' n'=>I (Fz s).length h' n'\/D h' n'))):=by
  intro m
  induction m with
  | zero=>
   intro i h n hm hi gz tx hI;have hl:(s.take (s.length - 9*i)).length=0:=by simp<;>omega
   refine aQ ?_;refine ν<|θ<|χ U (dV tx rfl _)<|cW U<|cQ U U<|ε ?_;refine aE U (by rw[hl];rfl)<|bW ⟨_,rfl,Or.inl ?_⟩;rw[IS];have:i=(s.length+8) / 9:=by omega
   rw[←this];exact hI
  | succ m ih=>
   intro i h n hm hi gz tx hI;have hl:(s.take (s.length - 9*i)).length=s.length - 9*i:=by simp<;>omega
   have gE:0<s.length - 9*i:=by omega
   refine aQ ?_;refine ν<|θ<|χ U (dV tx rfl _)<|cW U<|cQ U U<|ε ?_;rw[hl];refine aD U (by simp<;>omega)<|ao ?_;refine aK<|θ<|χ U (dV tx rfl _)<|cW U<|jg U U ⟨by omega,by omega⟩<|Li U U<|γ U<|ε ?_;rw[hl];have DN:max (0:Int) ((s.length - 9*i:Nat) - 9:Int)=((s.length - 9*i - 9:Nat):Int):=by omega
   rw[DN];have mU:i<(Fz s).length:=by rw[IS];omega
   have hck:((s.take (s.length - 9*i)).drop (s.length - 9*i - 9)).take ((s.take (s.length - 9*i)).length - (s.length - 9*i - 9))=chunk s i:=by unfold chunk;exact pF (by simp)
   have:=hS i mU h n gz hI;rw[NK,←hck]at this;refine ν<|θ<|γ U<|χ U (dV tx rfl _)<|γ U<|Ae U U U (by omega) (Γ _)<|al U U<|τ.mono this ?_;rintro v h3 n3 ⟨lz,zd,⟨rfl,hx⟩ | ⟨rfl,hx⟩⟩
   ·refine dR U<|ε<|aE U U<|ao ?_;have Xs:=zd.trans tx;refine aR<|χ U (dV Xs rfl _)<|γ U<|Ae U U U ((rB _)) ((show s.length - 9*i - 9<=(s.take (s.length - 9*i)).length by omega))<|ct U U Xs U <| λh4 a4 b4=>ε ?_;have e4:((s.take (s.length - 9*i)).drop 0).take (s.length - 9*i - 9 - 0)=s.take (s.length - 9*(i+1)):=by
     rw[jS,List.take_take];congr 1;omega
    rw[e4]at a4;exact ae (ih (i+1) h4 n3 (by omega) (by omega) (by omega) a4 (hB _ _ _ _ hx b4)) ⟨rfl,rfl,trivial⟩
   ·exact dR U<|ε<|aD U U<|aj ⟨_,rfl,Or.inr hx⟩
 refine ae (key _ 0 h n rfl (by omega) gz ?_ h0) ⟨rfl,rfl,trivial⟩;rw[tx,kM,rA,fO]
theorem ajM(hC:Cd C){s:S}(hlen:s.length<1000000)(hQ:∀h' n',Ext h n h' n'->n'.num=n.num+1->h' n=some (.c [st s] 9 0)->Q (.f 326 [] [.p n 0]) h' n'):τ C (.f 296 [] []) [st s] h n Q:=by refine τ.go hC.f296 U ?_;refine θ<|eL U U U <| λh1 n1 dZ a1 e1=>γ U<|ε ?_;refine θ<|BW U U<|γ U<|ε (aj ⟨_,rfl,hQ h1 n1 e1 dZ a1⟩)
theorem ajN{k:Nat}(h:k<=9):10 ^ k<=1000000000:=by have:10 ^ k<=10 ^ 9:=zu (by omega) h;simpa using this
section
variable {x2 x4:V}
theorem ajO{c:S}(hc:c.length<=9)(hd:∀x∈c,hX x=true){b b5:K}{h0:Hf}{n0:K}(eJ:n0.num<=b.num){Q1:Ex->Env->Hf->K->Prop}
 (hQ:∀E' h' n',Ext h0 n0 h' n'->da [(k2,x2),(k4,x4),(k5,.p b5 0),(k7,.i .u32 (dec c:Nat))] E'->Q1 .normal E' h' n'):
 ∀(m i:Nat) (h:Hf) (n:K),c.length - i=m->i<=c.length->h b=some (.it c.length (bR c) i)->Ext h0 n0 h n->WC C Sy [(k2,x2),(k4,x4),(k5,.p b5 0),(k7,.i .u32 (dec (c.take i):Nat)),(bf,.p b 0)] h n (blk 2 Q1):=by
 intro m
 induction m with
 | zero=>
  intro i h n hm hi hb e;have:i=c.length:=by omega
  subst this;refine aQ ?_;refine θ<|BZ U hb (by omega)<|dj U U<|ε ?_;refine ν<|aE U U<|bW (hQ _ _ _ e ⟨rfl,rfl,rfl,?_,trivial⟩);rw[fO];rfl
 | succ m ih=>
  intro i h n hm hi hb e;have ψ:i<c.length:=by omega
  have si:=AB (hd c[i] (dU _));have MU:dec (c.take (i+1))=10*dec (c.take i)+(c[i].toNat - 48):=by rw[iy ψ];exact We 0 _ _
  have MV:dec (c.take i)<10 ^ i:=by
   have:=dec_lt (s:=c.take i) (λx hx=>hd x (uE hx));have oz:(c.take i).length=i:=by simp;omega
   rw[oz]at this;exact this
  have hp:10 ^ i<=10 ^ 8:=zu (by omega) (by omega);refine aQ ?_;refine θ<|H4 U hb (by omega) <| λr w h1 R a1 b1=>dj U U<|ε ?_;refine ν<|aD U U<|ao<|aK ?_;obtain⟨er,ew⟩:r=(c[i]'ψ).toNat/\w=1:=R.lo (by omega);subst er;subst ew;refine θ<|dj U U<|γ U<|ε ?_;generalize hD:dec (c.take i)=D at*;refine aR<|γ U<|Lo U U (show(10:Int)*(D:Nat)=((10*D:Nat):Int) by omega) ⟨by omega,by omega⟩<|γ U<|kQ U U (show((c[i].toNat:Nat):Int) - 48=((c[i].toNat - 48:Nat):Int) by omega) ⟨by omega,by omega⟩<|pR U ⟨by omega,by omega⟩<|kp U U (show((10*D:Nat):Int)+((c[i].toNat - 48:Nat):Int)=((10*D+(c[i].toNat - 48):Nat):Int) by omega) ⟨by omega,by omega⟩<|γ U<|ε ?_;rw[←MU];exact ae (ih (i+1) h1 n (by omega) (by omega) a1 (e.aA b1 eJ)) ⟨rfl,rfl,rfl,rfl,rfl,trivial⟩
end
theorem Xt{E:Env}{k k':K}{v:V}{x:Bool}(h1:lk E k=some (.a [v]))(ho:v.one=true)(nu:lk E k'=some (.b x)):iQ E [.ns,.b false] [(0,1,.t k),(1,1,.t k')]=some [v,.b x]:=by simp only[iQ,ge,h1,nu,V.cells,fG,pG,bN,ho,eW,over];rfl
theorem ajP(hC:Cd C){v:V}{l:List Nat}{ng:Bool}(hv:bj h n .u32 v l)(hlen:l.length<1000000)(hQ:∀h' n',Ext h n h' n'->Q (.a [v,.b (ng&&!decide (l.length=0))]) h' n'):τ C (.f 297 [] []) [.a [v],.b ng] h n Q:=by
 refine τ.go hC.f297 U ?_;refine θ<|eL U U (fA hv.one) <| λh1 n1 dZ a1 e1=>ea <| λh2 n2 fB a2 e2=>ε ?_;have x2:=e1.trans e2;have c2:Cl h2 n2 n [v] 297:=Cl.ext ⟨by omega,a1⟩ e2;have l2:∀{h' n'},Ext h2 n2 h' n'->cD h' true 1 (.p n 0)=some (.a [v]):=λe=>cz (c2.ext e).2 rfl;have iG:=hv.ext x2;have be:=mB (iG.below (Γ _));have ve:=mC (ρ.dX iG);cases ng with
 | true=>
  refine eS<|bc U (l2 (Ext.refl _ _)) be ve<|aL U<|aL U<|bF U (rfl)<|bc U (l2 (Ext.refl _ _)) be ve<|bF U (rfl)<|cJ U U<|Fh hC iG hlen <| λh3 n3 e3=>bF U (rfl)<|rP U<|BV U (rfl) U<|Ah (Xt rfl hv.one U)<|gH U U ((e3.2 n1 (by omega)).trans a2) (ff rfl rfl (jL hv.one U)) <| λh4 a4 b4=>dQ (⟨⟨ak (by simp[Nat.testBit]),ak (by simp[Nat.testBit]),trivial⟩,⟨ak (by simp[Nat.testBit]),dJ (l2 (Ext.refl _ _)) (l2 e3),trivial⟩,trivial⟩) ?_;refine aj ⟨_,kP rfl (cz a4 rfl),?_⟩;exact hQ h4 n3 ((x2.trans e3).aA b4 (by omega))
 | false=>
  refine eS<|bc U (l2 (Ext.refl _ _)) be ve<|aL U<|aL U<|fc U (rfl)<|fc U (rfl)<|fc U (rfl)<|rO U (rfl) U<|Ah (Xt rfl hv.one U)<|gH U U a2 (ff rfl rfl (jL hv.one U)) <| λh4 a4 b4=>dQ (⟨⟨ak (by simp[Nat.testBit]),trivial⟩,trivial⟩) ?_;refine aj ⟨_,kP rfl (cz a4 rfl),?_⟩;exact hQ h4 n2 (x2.aA b4 (by omega))
end
section
variable {C:Nat->Option bP}{h:Hf}{n:K}{Q:V->Hf->K->Prop}
theorem ajQ{s:S}{j:Nat}(hj:9*j<=s.length):chunk s j++s.drop (s.length - 9*j)=s.drop (s.length - 9*(j+1)):=by
 unfold chunk;have e:s.length - 9*(j+1)=s.length - 9*j - 9:=by omega
 rw[e];have h2:s.length - 9*j - 9<=(s.take (s.length - 9*j)).length:=by simp
 rw[←List.drop_append_of_le_length h2,Bk]
theorem ajR(s:S)(j:Nat):(chunk s j).length<=9:=by unfold chunk;simp;omega
theorem ajS{s:S}{j:Nat}:∀c∈chunk s j,c∈s:=λc hc=>uE (Bm hc)
theorem Xu(hC:Cd C){s:S}(hlen:s.length<1000)(hd:∀c∈body s,hX c=true)
 (hQ:∀v l h' n',Ext h n h' n'->bj h' n' .u32 v l->eK Bg l->l.length<=s.length->val Bg l=dec (body s)->(v=.ns\/n.num<=v.blk.num)->Q (.a [v,.b (isNeg s&&!decide (l.length=0))]) h' n'):τ C (.f 251 [] []) [st s] h n Q:=by
 have iL:=EJ s;refine τ.go hC.f251 U ?_;refine θ<|ea <| λh1 n1 dZ a1 e1=>ε ?_;refine θ<|γ U<|al U U<|W2 hC<|γ U<|dj U U<|dj U U<|γ U<|γ U<|ε ?_;have c2:Cl h1 n1 n [.ns,.b false] 299:=⟨by omega,a1⟩;generalize D9:body s=t at*;generalize isNeg s=ng at*;refine θ<|ea <| λh2 n2 fB a2 e2=>ε ?_;have c5:Cl h2 n2 n1 [.ns] 295:=⟨by omega,a2⟩;refine ν<|θ<|γ U<|al U U<|ajM hC (by omega) <| λh3 n3 e3 lz a3=>ε ?_;have x3:Ext h1 n1 h3 n3:=e2.trans e3;let I:Nat->Hf->K->Prop:=λj h' n'=>∃vs l,Cl h' n' n1 [vs] 295/\Gr h1 n1 h' n' 342 1 vs l.length (nC .u32 l)/\l.length=j/\Sm Bg l/\val Bg l=dec (t.drop (t.length - 9*j))/\(vs=.ns\/n3.num<vs.blk.num);refine aK<|adn U (ajL hC (by omega)) (by omega) a3 I (λ_ _ _=>False) ?_ ?_ ?_ ?_ ?_ ?_ ?_ ?_
 ·rintro j h1 m1 h' n' ⟨vs,l,g1,g2,g3,g4,g5,g6⟩ ex;exact⟨vs,l,g1.ext ex,g2.on ex,g3,g4,g5,g6⟩
 ·rintro j h1 m1 h' ⟨vs,l,g1,g2,g3,g4,g5,g6⟩ bt;exact⟨vs,l,g1.aA bt (by omega),g2.aA bt (by omega) (g6.imp id λh=>by omega),g3,g4,g5,g6⟩
 ·rintro j h1 m1 h' ⟨vs,l,g1,g2,g3,g4,g5,g6⟩ bt;exact⟨vs,l,g1.aA bt (by omega),g2.aA bt (by omega) (g6.imp id λh=>by omega),g3,g4,g5,g6⟩
 ·intro j hj;rw[NK];rfl
 ·intro h' bt;have O0:n3.succ.num=n3.num+1:=K.fH n3;refine⟨.ns,[],((c5.ext e3).aA bt (by omega)).up (by omega),Gr.ns ((x3.aA bt (by omega)).succ),rfl,Sm.nil,?_,Or.inl U⟩;rw[kM,rA,nH];rfl
 ·rintro j hj h4 n4 E1 nE ⟨vs,l,g1,g2,g3,g4,g5,g6⟩ j6;have fb:j<(t.length+8) / 9:=by rw[IS]at hj;exact hj
  rw[NK]at j6;simp only[mS,rq]at j6;subst j6;have cl:=ajR t j;have cd:∀x∈chunk t j,hX x=true:=λx hx=>hd x (ajS x hx);have hD1:dec (chunk t j)<Bg:=by have h1:=dec_lt cd;have h2:=ajN cl;exact fN h1 h2
  have hD2:dec (t.drop (t.length - 9*(j+1)))=dec (chunk t j)*Bg ^ j+dec (t.drop (t.length - 9*j)):=by rw[←ajQ (by omega),Iy];congr 2;rw[sK,show t.length - (t.length - 9*j)=9*j by omega,Nat.pow_mul]
  refine aR<|γ U<|ε ⟨rfl,Γ _,rfl,rfl,λh5 b5=>?_⟩;have g15:=g1.aA b5 (by omega);have g25:Gr h1 n1 h5 n4 342 1 vs l.length (nC .u32 l):=g2.aA b5 (by omega) (g6.imp id λh=>by omega);generalize chunk t j=ck at*;refine aK<|θ<|γ U<|ε ?_;refine ν<|θ<|γ U<|HZ U <| λh6 n6 pz a6 e6=>ε ?_;refine aK<|ae (ajO (x2:=.p n 0) (x4:=.b ng) (b5:=n1) cl cd (b:=n4) (h0:=h5) (n0:=n4) (Γ _) ?_ _ 0 h6 n6 rfl (by omega) a6 e6) ⟨rfl,rfl,rfl,rfl,rfl,trivial⟩;intro E7 h7 n7 e7 hE;refine dB hE ?_;have Zp:=g15.ext e7;have Pe:=g25.on e7;have z7:=e7.1;have z1:=Zp.1;generalize dec ck=D at*;have at7:=Pe.lt;refine aR<|χ U (Zp.ld U _)<|γ U<|fx U <| λh8 n8 mJ a8 e8=>jK U ((Pe.on e8).own) U (ρ.whole (len:=1) (by omega) a8 rfl) (by omega) (by omega) (by omega) (by omega) U ((Pe.on e8).lt) <| λv9 h9 n9 Zq Zk OY Nx=>ct U U ((Nx _ (by omega) (g6.imp id λh=>by omega)).trans (Zp.ext e8).2) (HT Zq.cells Zq.one U) <| λlj A6 kZ=>ε ?_;have g29:=(Pe.on e8).app Zq Zk OY Nx;have NL:df n1 h9 lj:=kZ;have e2:nC .u32 l++[V.i .u32 (D:Nat)]=nC .u32 (l++[D]):=by rw[Ln];rfl
  rw[e2]at g29;have k9:v9.blk.num=n8.num:=by rw[Zk]
  have fV:(l++[D]).length=l.length+1:=by simp
  refine⟨by omega,?_,?_,v9,l++[D],⟨by omega,A6⟩,?_,by rw[fV,g3],?_,?_,Or.inr (by omega)⟩
  ·rw[NL _ (by omega),Nx _ (by omega) (g6.imp id λh=>by omega),e8.2 _ (by omega),e7.2 _ (by omega)]
  ·rw[NL _ (by omega),Nx _ (by omega) (g6.imp id λh=>by omega),e8.2 _ (by omega),e7.2 _ (by omega)]
  ·rw[fV];exact g29.aA NL (Γ _) (Or.inr (by omega))
  ·intro x hx;rcases kc.1 hx with hx | hx
   ·exact g4 x hx
   ·simp at hx;rw[hx];exact hD1
  ·rw[yM,hD2,g5,g3];simp only[val,kM,j8];rw[dY D,qs]
 ·rintro h' n' ue ⟨vs,l,g1,g2,g3,g4,g5,g6⟩;rw[IS]at g3 g5;rw[show t.length - 9*((t.length+8) / 9)=0 by omega,jS]at g5;have il:bj h' n' .u32 vs l:=g2.sl;have d2:=c2.ext g2.ext;refine θ<|χ U (g1.ld U _)<|al U U<|yR hC (Γ _) il (by omega) <| λv5 h5 n5 e5 i5 O5 qK=>kl (kT rfl i5.cells i5.one)<|γ U<|al U U<|ajP hC (i5.up e5.1) (by have:=AA l;omega) <| λh6 n6 e6=>ct U U (((d2.ext e5).ext e6).2) (ff rfl rfl (jL i5.one U)) <| λh7 a7 b7=>ε ?_;refine aj ⟨_,kP rfl (cz a7 rfl),?_⟩;have sY:=AA l;have x7:Ext h n h7 n6:=(((e1.trans g2.ext).trans e5).trans e6).aA b7 (Γ _);have NF:v5=.ns\/n3.num<v5.blk.num:=g6.imp qK λh=>by rw[O5];exact h
  exact hQ v5 (dE l) h7 n6 x7 (((i5.up e5.1).ext e6).aA b7 (NF.imp id λh=>by omega)) (rR g4) (by omega) (by rw[pT,g5]) (NF.imp id λh=>by omega)
 ·rintro ex h' n' qG ue hf;exact hf.elim
theorem Xv(x:Bool):(V.b x).one=true:=rfl
theorem ajU{E:Env}{k k':K}{v w:V}{x y:Bool}(h1:lk E k=some (.a [v,.b x]))(ho:v.one=true)(nu:lk E k'=some (.a [w,.b y]))(rj:w.one=true):iQ E [.ns,.b false,.ns,.b false] [(0,2,.t k),(2,2,.t k')]=some [v,.b x,w,.b y]:=by simp only[iQ,ge,h1,nu,V.cells,fG,pG,bN,ho,rj,eW,over,Xv];rfl
theorem ajV{v w:V}{x y:Bool}(h1:v.one=true)(h2:w.one=true):bN [v,.b x,w,.b y]=true:=by simp only[bN,h1,h2,Xv];rfl
theorem ajW(hC:Cd C){s:S}(hlen:s.length<1000000)(hQ:∀h' n',Ext h n h' n'->Q (.i .i64 (nV s)) h' n'):τ C (.f 188 [] []) [st s] h n Q:=by
 refine τ.go hC.f188 U ?_;refine θ<|γ U<|ε ?_;cases hc:cutAt s with
 | none=>
  have hs:lL s=none:=by unfold lL;rw[hc]
  have hv:qO s=.u [st s,st [],.b false]:=by unfold qO;rw[hc]
  have key:∀{Q:V->Hf->K->Prop},Q (.u [st s,st [],.b false]) h n->τ C (.f 221 [] []) [st s,st [47]] h n Q:=λhQ=>W5 hC hlen (by rw[hv];exact hQ);refine θ<|γ U<|al U U<|key<|γ U<|dj U U<|dj U U<|dj U U<|γ U<|γ U<|γ U<|ε ?_;refine ν<|θ<|γ U<|dR U<|γ U<|σ U (rfl)<|σ U (rfl)<|cg U (rfl) U<|ε ?_;refine aD U U ?_;refine θ<|γ U<|ε (aj ⟨_,rfl,by have:=hQ h n (Ext.refl h n);rw[nV,hs]at this;exact this⟩)
 | some pq=>
  obtain⟨p,q⟩:=pq;have hv:qO s=.u [st p,st q,.b true]:=by unfold qO;rw[hc]
  have xh:=Wg hc;have key:∀{Q:V->Hf->K->Prop},Q (.u [st p,st q,.b true]) h n->τ C (.f 221 [] []) [st s,st [47]] h n Q:=λhQ=>W5 hC hlen (by rw[hv];exact hQ);refine θ<|γ U<|al U U<|key<|γ U<|dj U U<|dj U U<|dj U U<|γ U<|γ U<|γ U<|ε ?_;refine ν<|ν<|aR<|γ U<|dR U<|γ U<|κ U U<|γ U<|κ U U<|al U U<|aiO hC<|bE U U U<|ε ?_;by_cases sY:iK q=true
  ·have hs:lL s=none:=by unfold lL;rw[hc];simp only[sY,if_true]
   refine aD U sY ?_;refine θ<|γ U<|ε (aj ⟨_,rfl,by have:=hQ h n (Ext.refl h n);rw[nV,hs]at this;exact this⟩)
  ·have hs:lL s=some (p,q):=by unfold lL;rw[hc];simp only[sY,if_false];rfl
   simp only[nV,hs]at hQ;refine aE U (by simpa using sY)<|ao ?_;refine ν<|θ<|γ U<|al U U<|Ff hC (by omega) <| λh1 n1 e1=>γ U<|al U U<|Ff hC (by omega) <| λh2 n2 e2=>fx U <| λh3 n3 lz a3 e3=>al U U<|Ba hC.f250 (l:=[gK p,gK q]) (ρ.whole (len:=2) (by omega) a3 rfl) (by simp)<|γ U<|ε ?_;rw[AE];have x3:=(e1.trans e2).trans e3;refine θ<|γ U<|fT U U<|ε ?_;by_cases hp:gK p=0
   ·by_cases hq:gK q=0
    ·refine aE U (by simp[hp,hq])<|ao ?_;simp only[hp,hq,ne_eq,not_true_eq_false,if_false]at hQ;obtain⟨fp,lp⟩:=Ce hp;obtain⟨Ge,lq⟩:=Ce hq;have xh:=II hp;have JD:=II hq;obtain⟨dp,_⟩:=EI fp;obtain⟨dq,_⟩:=EI Ge;have hz:=MC Ge;have kf:∀(b:Bool) h' n',Ext h3 n3 h' n'->b=decide (isNeg q=true\/dec (body q)=0\/Nat.gcd (dec (body p)) (dec (body q))≠1)->Q (.i .i64 (if b then 1 else 0)) h' n':=by
      intro b h' n' e hb;have:=hQ h' n' (x3.trans e);rw[hb];by_cases hc:(isNeg q=true\/dec (body q)=0\/Nat.gcd (dec (body p)) (dec (body q))≠1)
      ·rw[az hc]at this;simpa[hc]using this
      ·rw[ai hc]at this;simpa[hc]using this
     refine θ<|γ U<|al U U<|Xu hC (by omega) dp <| λv4 l4 h4 n4 e4 i4 r4 m4 t4 s4=>γ U<|al U U<|Xu hC (by omega) dq <| λv5 l5 h5 n5 e5 i5 r5 m5 t5 s5=>kl (ajU rfl i4.one U i5.one)<|ea <| λh6 n6 pz a6 e6=>ct U U a6 (ff rfl rfl (ajV i4.one i5.one)) <| λh7 a7 b7=>ε ?_;have x7:Ext h3 n3 h7 n6:=((e4.trans e5).trans e6).aA b7 (by have:=e4.1;have:=e5.1;omega);have x57:Ext h5 n5 h7 n6:=e6.aA b7 (Γ _);have c7:Cl h7 n6 n5 [v4,.b (isNeg p&&!decide (l4.length=0)),v5,.b (isNeg q&&!decide (l5.length=0))] 302:=⟨by omega,a7⟩;have i47:=(i4.ext e5).ext x57;have i57:=i5.ext x57;have Pd:l5.length=0↔dec (body q)=0:=by rw[←t5,val_zero (B:=Bg) r5.2 (by decide)];exact nM
     have ll4:l4.length<400:=by omega
     have ll5:l5.length<400:=by omega
     by_cases h0:dec (body q)=0
     ·have gE:=Pd.2 h0;have uw:isNeg q=false:=by rw[hz.1 h0];rfl
      refine θ<|Ω U<|Ω U<|χ U (dV c7.2 rfl _)<|γ U<|κ U (by simp[gE])<|Ω U<|κ U (by simp[gE])<|Ω U<|κ U (by simp[gE])<|χ U (cz c7.2 rfl)<|κ U (by simp[gE])<|al U U<|Fh hC i57 (by omega) <| λh8 n8 e8=>bE U (by simp[gE]) U<|γ U<|σ U (by simp[gE])<|σ U (by simp[gE])<|σ U (by simp[gE])<|σ U (by simp[gE])<|σ U (by simp[gE])<|σ U (by simp[gE])<|σ U (by simp[gE])<|σ U (by simp[gE])<|σ U (by simp[gE])<|cg U (by simp[gE]) U<|al U U<|qf hC.f248<|γ U<|ε ?_;refine aj ⟨_,rfl,kf _ _ _ (x7.trans e8) ?_⟩;simp[h0]
     ·have gE:¬ l5.length=0:=λe=>h0 (Pd.1 e);cases uw:isNeg q with
      | true=>
       refine θ<|Ω U<|Ω U<|χ U (dV c7.2 rfl _)<|γ U<|σ U (by simp[gE,uw])<|σ U (by simp[gE,uw])<|σ U (by simp[gE,uw])<|σ U (by simp[gE,uw])<|cg U (by simp[gE,uw]) U<|γ U<|σ U U<|σ U U<|σ U U<|σ U U<|σ U U<|σ U U<|σ U U<|σ U U<|σ U U<|cg U U U<|al U U<|qf hC.f248<|γ U<|ε ?_;refine aj ⟨_,rfl,kf _ _ _ x7 ?_⟩;simp[uw]
      | false=>
       refine θ<|Ω U<|Ω U<|χ U (dV c7.2 rfl _)<|γ U<|κ U (by simp[gE,uw])<|Ω U<|κ U (by simp[gE,uw])<|Ω U<|κ U (by simp[gE,uw])<|χ U (cz c7.2 rfl)<|κ U (by simp[gE,uw])<|al U U<|Fh hC i57 (by omega) <| λh8 n8 e8=>bE U (by simp[gE,uw]) U<|γ U<|κ U (by simp[gE])<|Ω U<|κ U (by simp[gE])<|Ω U<|κ U (by simp[gE])<|χ U (cz (c7.ext e8).2 rfl)<|κ U (by simp[gE])<|Ω U<|κ U (by simp[gE])<|Ω U<|κ U (by simp[gE])<|χ U (cz (c7.ext e8).2 rfl)<|κ U (by simp[gE])<|al U U<|ajK hC ll4 ll5 r4 r5 (i47.ext e8) (i57.ext e8) <| λvg g h9 n9 e9 i9 l9 r9 t9=>κ U (by simp[gE])<|al U U<|aiP hC i9 (by omega) <| λlj eV nG=>κ U (by simp[gE])<|dR U<|bE U (by simp[gE]) U<|al U U<|qf hC.f248<|γ U<|ε ?_;refine aj ⟨_,rfl,kf _ _ _ (((x7.trans e8).trans e9).trans nG) ?_⟩;rw[t4,t5]at t9;by_cases hg:g=[1]
       ·have:Nat.gcd (dec (body p)) (dec (body q))=1:=by rw[←t9,hg];rfl
        simp[hg,this,uw,h0]
       ·have:¬ Nat.gcd (dec (body p)) (dec (body q))=1:=λe=>hg (val_inj (B:=Bg) r9 ⟨Sm.cons (by decide) Sm.nil,λh=>by simp⟩ (by decide) (by rw[t9,e];rfl));simp[hg,this]
    ·refine aD U (by simp[hp,hq]) ?_;simp only[hp,hq,ne_eq,not_true_eq_false,if_false,not_false_eq_true,if_true]at hQ ⊢;refine θ<|γ U<|γ U<|ε (aj ⟨_,rfl,hQ _ _ x3⟩)
   ·refine aD U (by simp[hp]) ?_;simp only[hp,ne_eq,not_false_eq_true,if_true]at hQ ⊢;refine θ<|γ U<|γ U<|ε (aj ⟨_,rfl,hQ _ _ x3⟩)
end
section
variable {C:Nat->Option bP}{h:Hf}{n:K}{Q:V->Hf->K->Prop}
theorem w99(hC:Cd C){x:Nd}{vv kv:V}{i:Nat}(hv:vv.one=true)(hk:kv.one=true)(hl:x.name.length<1000000)(hQ:∀h' n',Ext h n h' n'->Q (.i .i64 (kA x)) h' n'):τ C (.f 99 [] []) [.a (pc x vv kv i)] h n Q:=by
 refine τ.go hC.f99 U ?_;refine θ<|eL U U (Ci x hv hk) <| λh1 n1 dZ a1 e1=>γ U<|ε ?_;have cl:Cl h1 n1 n (pc x vv kv i) 141:=⟨by omega,a1⟩;have lo:cD h1 false 1 (.p n (0+0+0))=some (.i .i64 x.op):=cl.ld U _;have ln:cD h1 false 1 (.p n (0+0+2))=some (st x.name):=cl.ld U _;refine ν<|θ<|Ω U<|Ω U<|χ U lo<|ε ?_;have r6:∀(b:Bool) h2 n2,Ext h1 n1 h2 n2->kA x=(if b then 6 else 0)->Q (.i .i64 (if b then 6 else 0)) h2 n2:=λb h2 n2 e he=>by have:=hQ h2 n2 (e1.trans e);rw[he]at this;exact this
 refine aK<|θ<|bQ U U<|γ U<|ε ?_;refine di U (λhx=>?_) (λhx=>?_)
 ·simp only[bT]at hx;by_cases oa:gK x.name=0
  ·refine θ<|Ω U<|Ω U<|χ U ln<|al U U<|Ff hC hl <| λh2 n2 e2=>fT U U<|γ U<|σ U (by simp[oa])<|σ U (by simp[oa])<|σ U (by simp[oa])<|σ U (by simp[oa])<|σ U (by simp[oa])<|bE U (by simp[oa]) U<|al U U<|qf hC.f42<|γ U<|ε ?_;exact aj ⟨_,rfl,r6 _ _ _ e2 (by simp[kA,hx,isNumeral,oa])⟩
  ·have lnE:∀{h' n'},Ext h1 n1 h' n'->cD h' false 1 (.p n (0+0+2))=some (st x.name):=λe=>(cl.ext e).ld U _;refine θ<|Ω U<|Ω U<|χ U ln<|al U U<|Ff hC hl <| λh2 n2 e2=>fT U U<|γ U<|κ U (by simp[oa])<|Ω U<|κ U (by simp[oa])<|Ω U<|κ U (by simp[oa])<|χ U (lnE e2)<|κ U (by simp[oa])<|al U U<|ajW hC hl <| λh3 n3 e3=>κ U (by simp[oa])<|fT U U<|cg U (by simp[oa]) U<|al U U<|qf hC.f42<|γ U<|ε<|aj ⟨_,rfl,r6 _ _ _ (e2.trans e3) ?_⟩;by_cases hr:nV x.name=0<;>simp[kA,hx,isNumeral,oa,hr]
 simp only[dn]at hx;refine θ<|bQ U U<|γ U<|ε ?_;refine di U (λjQ=>?_) (λjQ=>?_)
 ·simp only[bT]at jQ;refine θ<|Ω U<|Ω U<|χ U ln<|al U U<|w44 hC (by omega) <| λh2 n2 e2=>dR U<|al U U<|qf hC.f42<|γ U<|ε ?_;refine aj ⟨_,rfl,r6 _ _ _ e2 ?_⟩;cases hp:rW x.name<;>simp[kA,jQ,hp]
 simp only[dn]at jQ;refine θ<|bQ U U<|γ U<|ε ?_;refine di U (λmK=>?_) (λmK=>ao ?_)
 ·simp only[bT]at mK;refine θ<|Ω U<|Ω U<|χ U ln<|gg (b:=[]) U U<|al U U<|qf hC.f42<|γ U<|ε ?_;refine aj ⟨_,rfl,r6 _ _ _ (Ext.refl _ _) ?_⟩;by_cases hp:x.name=[]<;>simp[kA,mK,hp]
 simp only[dn]at mK;refine θ<|Ω U<|Ω U<|χ U ln<|rN (b:=[]) U U<|al U U<|qf hC.f42<|γ U<|ε ?_;refine aj ⟨_,rfl,r6 _ _ _ (Ext.refl _ _) ?_⟩;by_cases hp:x.name=[]<;>simp[kA,hx,jQ,mK,hp]
section
variable {x:Nd}{vv kv:V}{b:K}{pl:Nat}
theorem ajY(hC:Cd C){h0:Hf}{n0:K}(hv:fC h0 n0 vv x.vars)(ug:x.vars.length<1000)(AI:∀v∈x.vars,v.1.length<10000000)(hb:Cl h0 n0 b (pc x vv kv pl) 141):
 ∀(m i:Nat) (h:Hf) (n:K),x.vars.length - i=m->i<=x.vars.length->Ext h0 n0 h n->(∀h' n',Ext h0 n0 h' n'->Q (.i .i64 (yQ x.vars m i)) h' n')->WC C SX [(k1,.p b 0),(dd,vv),(cV,.i .i64 (x.vars.length:Nat)),(dy,.i .i64 (i:Nat))] h n (blk 0 (sq C SY (fq [.t k2] Q))):=by
 intro m
 induction m with
 | zero=>
  intro i h n hm hi e hQ;have:i=x.vars.length:=by omega
  subst this;refine aQ ?_;refine θ<|aP U U<|ε ?_;refine ν<|aE U (by simp)<|bW ?_;refine θ<|γ U<|ε (aj ⟨_,rfl,hQ _ _ e⟩)
 | succ m ih=>
  intro i h n hm hi e hQ;have ψ:i<x.vars.length:=by omega
  simp only[yQ,gP ψ]at hQ;have M7:=AI _ (dU ψ);have oh:=hv.ext e;have gz:=hb.1;have hen:=e.1;refine aQ ?_;refine θ<|aP U U<|ε ?_;refine ν<|aD U (by simp<;>omega)<|ao ?_;refine ν<|aK<|θ<|γ U<|bh U U oh ψ<|χ U (oh.nO ψ)<|ea <| λh1 n1 dZ a1 e1=>γ U<|ct U U a1 U <| λh2 a2 b2=>ε ?_;have e2:Ext h n h2 n1:=e1.aA b2 (Γ _);have c4:Cl h2 n1 n [st x.vars[i].1,st x.vars[i].2] 64:=⟨by omega,a2⟩;have cb:Cl h2 n1 b (pc x vv kv pl) 141:=(hb.ext e).ext e2;have iG:=oh.ext e2;have l0:∀{H:Hf},Ag n1 h2 H->cD H false 1 (.p n (0+0))=some (st x.vars[i].1):=λag=>(c4.ext (ag.x (Γ _))).ld U _;have lv:∀{H:Hf},Ag n1 h2 H->cD H false 1 (.p b (0+0+3))=some vv:=λag=>(cb.ext (ag.x (Γ _))).ld U _;have be:=iG.below (Γ _);have ve:=ρ.dX iG;clear a1 a2 b2 e1;refine eS<|dG U<|bc U (l0 (Ag.refl _ _)) U (nQ _ _)<|cJ U U<|w44 hC M7 <| λh3 n3 e3=>rP U<|cJ U U<|qf hC.f42<|dG U<|dG U<|bc U (lv e3.ag) (iG.below e3.1) ve<|aL U<|RR U (fC.ext iG e3) U U (by omega) ((show i<=_ by omega)) <| λv4 i4 l4=>dG U<|bc U (l0 e3.ag) U (nQ _ _)<|cJ U U<|agw hC (fC.sub i4 (by omega)) (by simp<;>omega) <| λh5 n5 e5=>cJ U U<|qf hC.f42<|uW U <| λh6 n6 pz a6 e6=>cJ U U<|Ba hC.f41 (l:=[if (!rW x.vars[i].1) then 6 else 0,if decide (x.vars[i].1∈((x.vars.drop 0).take (i - 0)).map Prod.fst) then 7 else 0]) (ρ.whole (len:=2) (by omega) a6 rfl) (by simp)<|aL U<|dQ (⟨⟨ak (by simp[Nat.testBit]),ak (by simp[Nat.testBit]),ak (by simp[Nat.testBit]),dJ (l0 (e3.ag.hp n5 none (by have:=e3.1;have:=e5.1;omega))) (l0 (e3.ag.hp n5 none (by have:=e3.1;have:=e5.1;omega))),dJ (l0 ((Ag.refl _ _).hp n5 none (by have:=e3.1;have:=e5.1;omega))) (l0 (e3.ag.hp n5 none (by have:=e3.1;have:=e5.1;omega))),trivial⟩,⟨ak (by simp[Nat.testBit]),ak (by simp[Nat.testBit]),ak (by simp[Nat.testBit]),dJ (lv (e3.ag.hp n5 none (by have:=e3.1;have:=e5.1;omega))) (lv (e3.ag.hp n5 none (by have:=e3.1;have:=e5.1;omega))),dJ (lv ((Ag.refl _ _).hp n5 none (by have:=e3.1;have:=e5.1;omega))) (lv (e3.ag.hp n5 none (by have:=e3.1;have:=e5.1;omega))),trivial⟩,⟨ak (by simp[Nat.testBit]),ak (by simp[Nat.testBit]),ak (by simp[Nat.testBit]),ak (by simp[Nat.testBit]),ak (by simp[Nat.testBit]),trivial⟩,trivial⟩) ?_
  rw[AE,jS,rA];have e36:Ext h2 n1 h6 n6:=(e3.trans e5).trans e6;have Zr:=(e.trans e2).trans e36;refine θ<|γ U<|fT U U<|ε ?_;cases hp:rW x.vars[i].1 with
  | false=>
   rw[hp]at hQ;refine aD U (by simp) ?_;refine θ<|γ U<|γ U<|ε (aj ⟨_,rfl,?_⟩);have:=hQ h6 n6 Zr;simp at this ⊢;exact this
  | true=>
   rw[hp]at hQ;by_cases hc:x.vars[i].1∈(x.vars.take i).map Prod.fst
   ·rw[ai (by simp),az hc]at hQ;refine aD U (by rw[qo hc];simp) ?_;refine θ<|γ U<|γ U<|ε (aj ⟨_,rfl,?_⟩);have:=hQ h6 n6 Zr;rw[qo hc];simp;exact this
   ·rw[ai (by simp),ai hc]at hQ;refine aE U (by rw[gj hc];simp)<|ao ?_;refine aR<|cK U U ⟨by omega,by omega⟩<|γ U<|ε ?_;exact ae (ih (i+1) h6 n6 (by omega) (by omega) Zr hQ) ⟨rfl,rfl,rfl,rfl,trivial⟩
theorem ajZ(hC:Cd C)(hv:fC h n vv x.vars)(hk:kv.one=true)(ug:x.vars.length<1000)(AI:∀v∈x.vars,v.1.length<10000000)(hQ:∀h' n',Ext h n h' n'->Q (.i .i64 (kB x)) h' n'):τ C (.f 100 [] []) [.a (pc x vv kv pl)] h n Q:=by
 refine τ.go hC.f100 U ?_;refine θ<|eL U U (Ci x (ρ.one hv) hk) <| λh1 n1 dZ a1 e1=>γ U<|ε ?_;have hb:Cl h1 n1 n (pc x vv kv pl) 141:=⟨by omega,a1⟩;have lv:cD h1 false 1 (.p n (0+0+3))=some vv:=hb.ld U _;have lo:cD h1 false 1 (.p n (0+0+0))=some (.i .i64 x.op):=hb.ld U _;have ji:=hv.ext e1;have go:kB x=yQ x.vars x.vars.length 0->WC C Ly [(k1,.p n 0)] h1 n1 (fq [.t k2] Q):=by intro he;refine ν<|θ<|Ω U<|Ω U<|χ U lv<|aG U ji<|γ U<|ε ?_;exact aK<|ae (ajY hC ji ug AI hb _ 0 h1 n1 rfl (by omega) (Ext.refl _ _) (λh' n' e=>by rw[rA,←he];exact hQ _ _ (e1.trans e))) ⟨rfl,rfl,rfl,rfl,trivial⟩
 have bad:kB x=5->WC C SW [] h1 n1 (sq C Ly (fq [.t k2] Q)):=by intro he;have hQ:=hQ h1 n1 e1;rw[he]at hQ;refine θ<|γ U<|ε (aj ⟨_,rfl,hQ⟩)
 by_cases hq:x.op=17\/x.op=18
 ·have dq:decide (x.op=17\/x.op=18)=true:=qo hq;have cq:∀{Q:V->Hf->K->Prop},Q (.b true) h1 n1->τ C (.f 56 [] []) [.i .i64 x.op] h1 n1 Q:=λhQ=>EM hC.f56 (by rw[dq];exact hQ);by_cases h1:x.vars.length<1
  ·refine ν<|θ<|Ω U<|Ω U<|χ U lo<|al U U<|cq<|dR U<|γ U<|σ U (rfl)<|σ U (rfl)<|σ U (rfl)<|σ U (rfl)<|σ U (rfl)<|bE U (rfl) U<|γ U<|κ U U<|Ω U<|κ U U<|Ω U<|κ U U<|χ U lo<|κ U U<|al U U<|cq<|κ U U<|γ U<|κ U (rfl)<|Ω U<|κ U (rfl)<|Ω U<|κ U (rfl)<|χ U lv<|κ U (rfl)<|aG U ji<|κ U (rfl)<|aP U U<|κ U (rfl)<|γ U<|σ U (by simp<;>omega)<|σ U (by simp<;>omega)<|σ U (by simp<;>omega)<|σ U (by simp<;>omega)<|σ U (by simp<;>omega)<|κ U (rfl)<|cg U (by simp<;>omega) U<|κ U U<|cg U (rfl) U<|bE U U U<|ε ?_;exact aD U (by simp<;>omega)<|ae (bad (by simp only[kB,az hq,az (Or.inl h1)])) trivial
  ·refine ν<|θ<|Ω U<|Ω U<|χ U lo<|al U U<|cq<|dR U<|γ U<|σ U (rfl)<|σ U (rfl)<|σ U (rfl)<|σ U (rfl)<|σ U (rfl)<|bE U (rfl) U<|γ U<|κ U U<|Ω U<|κ U U<|Ω U<|κ U U<|χ U lo<|κ U U<|al U U<|cq<|κ U U<|γ U<|κ U (rfl)<|Ω U<|κ U (rfl)<|Ω U<|κ U (rfl)<|χ U lv<|κ U (rfl)<|aG U ji<|κ U (rfl)<|aP U U<|κ U (rfl)<|γ U<|κ U (by simp<;>omega)<|Ω U<|κ U (by simp<;>omega)<|Ω U<|κ U (by simp<;>omega)<|χ U lv<|κ U (by simp<;>omega)<|aG U ji<|κ U (by simp<;>omega)<|cQ U U<|κ U (rfl)<|bE U (by simp<;>omega) U<|κ U U<|cg U (rfl) U<|bE U U U<|ε ?_;by_cases h2:12<x.vars.length
   ·exact aD U (by simp<;>omega)<|ae (bad (by simp only[kB,az hq,az (Or.inr h2)])) trivial
   ·exact aE U (by simp<;>omega)<|ao<|ae (go (by simp only[kB,az hq];rw[ai (by omega)])) ⟨rfl,trivial⟩
 ·have dq:decide (x.op=17\/x.op=18)=false:=gj hq;have cq:∀{Q:V->Hf->K->Prop},Q (.b false) h1 n1->τ C (.f 56 [] []) [.i .i64 x.op] h1 n1 Q:=λhQ=>EM hC.f56 (by rw[dq];exact hQ);by_cases h2:0<x.vars.length
  ·refine ν<|θ<|Ω U<|Ω U<|χ U lo<|al U U<|cq<|dR U<|γ U<|κ U (rfl)<|Ω U<|κ U (rfl)<|Ω U<|κ U (rfl)<|χ U lv<|κ U (rfl)<|aG U ji<|κ U (rfl)<|cQ U U<|cg U (rfl) U<|γ U<|σ U (by simp<;>omega)<|σ U (by simp<;>omega)<|σ U (by simp<;>omega)<|σ U (by simp<;>omega)<|σ U (by simp<;>omega)<|eX U<|eX U<|eX U<|eX U<|eX U<|eX U<|eX U<|eX U<|eX U<|eX U<|eX U<|eX U<|σ U (by simp<;>omega)<|cg U (by simp<;>omega) U<|ε ?_;exact aD U (by simp<;>omega)<|ae (bad (by simp only[kB,ai hq,az h2])) trivial
  ·refine ν<|θ<|Ω U<|Ω U<|χ U lo<|al U U<|cq<|dR U<|γ U<|κ U (rfl)<|Ω U<|κ U (rfl)<|Ω U<|κ U (rfl)<|χ U lv<|κ U (rfl)<|aG U ji<|κ U (rfl)<|cQ U U<|cg U (rfl) U<|γ U<|κ U (gj (show ¬ (0:Int)<((x.vars.length:Nat):Int) by omega))<|Ω U<|κ U (gj (show ¬ (0:Int)<((x.vars.length:Nat):Int) by omega))<|Ω U<|κ U (gj (show ¬ (0:Int)<((x.vars.length:Nat):Int) by omega))<|χ U lo<|κ U (gj (show ¬ (0:Int)<((x.vars.length:Nat):Int) by omega))<|al U U<|cq<|κ U (gj (show ¬ (0:Int)<((x.vars.length:Nat):Int) by omega))<|γ U<|σ U (rfl)<|σ U (rfl)<|σ U (rfl)<|σ U (rfl)<|σ U (rfl)<|σ U (rfl)<|eX U<|eX U<|eX U<|eX U<|eX U<|σ U (rfl)<|κ U (gj (show ¬ (0:Int)<((x.vars.length:Nat):Int) by omega))<|bE U (rfl) U<|bE U (gj (show ¬ (0:Int)<((x.vars.length:Nat):Int) by omega)) U<|ε ?_;refine aE U U<|ao<|ae (go ?_) ⟨rfl,trivial⟩;have:x.vars.length=0:=by omega
   simp only[kB,ai hq,ai h2,this];rfl
end
end
section
variable {C:Nat->Option bP}{h:Hf}{n:K}{Q:V->Hf->K->Prop}
def conn:List V:=[.s 4 1702195828,.i .i64 0,.s 4 1819242306,.f 382 [] [],.s 5 435728179558,.i .i64 0,.s 4 1819242306,.f 382 [] [],.s 0 0,.i .i64 0,.s 1 110,.f 382 [] [],.s 0 0,.i .i64 0,.s 1 115,.f 382 [] [],.s 0 0,.i .i64 (-1),.s 1 115,.nf,.s 3 7630702,.i .i64 1,.s 4 1819242306,.f 382 [] [],.s 3 6581857,.i .i64 (-1),.s 4 1819242306,.f 382 [] [],.s 2 29295,.i .i64 (-1),.s 4 1819242306,.f 382 [] [],.s 2 15933,.i .i64 2,.s 4 1819242306,.f 382 [] [],.s 3 6710889,.i .i64 2,.s 4 1819242306,.f 382 [] [],.s 3 6648937,.i .i64 3,.s 1 115,.f 383 [] [],.s 1 61,.i .i64 2,.s 4 1819242306,.f 384 [] [],.s 1 43,.i .i64 2,.s 1 110,.f 385 [] [],.s 1 45,.i .i64 2,.s 1 110,.f 385 [] [],.s 1 42,.i .i64 2,.s 1 110,.f 385 [] [],.s 1 60,.i .i64 2,.s 4 1819242306,.f 385 [] [],.s 2 15676,.i .i64 2,.s 4 1819242306,.f 385 [] [],.s 6 119212747157350,.i .i64 (-2),.s 4 1819242306,.f 386 [] [],.s 6 126943989692517,.i .i64 (-2),.s 4 1819242306,.f 387 [] [],.s 1 33,.i .i64 (-2),.s 1 45,.nf]
def Gl(h:Hf)(n:K):Prop:=k0.num<n.num/\h k0=some (.r conn)
theorem Gl.ext{h':Hf}{n':K}(a:Gl h n)(e:Ext h n h' n'):Gl h' n':=⟨fN a.1 e.1,by rw[e.2 _ a.1];exact a.2⟩
theorem Gl.ld(a:Gl h n){o:Nat}{v:V}(hv:nth conn o=some v)(sz:Nat):cD h false sz (.p k0 o)=some v:=by simp only[cD,ja,a.2,O.row,cond_false];exact hv
def pj(o:Nat):S:=if o=2\/o=12\/o=13\/o=14 then [110] else if o=3\/o=4\/o=10 then [115] else if o=19 then [45] else Cj
def yT(o:Nat):Int:=if o=0\/o=1\/o=2\/o=3 then 0 else if o=4\/o=6\/o=7 then -1 else if o=5 then 1 else if o=10 then 3 else if o=17\/o=18\/o=19 then -2 else 2
theorem Xw{o:Nat}(h:o<20):nth conn (0+o*4+2)=some (st (pj o))/\nth conn (0+o*4+1)=some (.i .i64 (yT o)):=by
 have:o=0\/o=1\/o=2\/o=3\/o=4\/o=5\/o=6\/o=7\/o=8\/o=9\/o=10\/o=11\/o=12\/o=13\/o=14\/o=15\/o=16\/o=17\/o=18\/o=19:=by omega
 rcases this with rfl | rfl | rfl | rfl | rfl | rfl | rfl | rfl | rfl | rfl | rfl | rfl | rfl | rfl | rfl | rfl | rfl | rfl | rfl | rfl<;>exact⟨rfl,rfl⟩
def AU(x:Nd):Bool:=
 if pj x.op.toNat=[110] then !decide (x.sort=nX\/x.sort=pd)||(decide (x.op=2)&&(decide (gK x.name=0)!=decide (x.sort=nX)))
 else if pj x.op.toNat=[115] then decide (x.sort=[]) else if pj x.op.toNat=[45] then !decide (x.sort=[]) else !decide (x.sort=pj x.op.toNat)
theorem aj0(hC:Cd C){x:Nd}{vv kv:V}{i:Nat}(hg:Gl h n)(fm:0<=x.op/\x.op<20)(hv:vv.one=true)(hk:kv.one=true)(hl:x.name.length<1000000)(hQ:∀h' n',Ext h n h' n'->Q (.i .i64 (if AU x then 13 else 0)) h' n'):τ C (.f 101 [] []) [.a (pc x vv kv i)] h n Q:=by
 obtain⟨o,ho⟩:∃o:Nat,x.op=(o:Nat):=⟨x.op.toNat,by omega⟩;have IT:o<20:=by omega
 have eE:x.op.toNat=o:=by omega
 refine τ.go hC.f101 U ?_;refine θ<|eL U U (Ci x hv hk) <| λh1 n1 dZ a1 e1=>γ U<|ε ?_;have cl:Cl h1 n1 n (pc x vv kv i) 141:=⟨by omega,a1⟩;have lo:∀{h' n'},Ext h1 n1 h' n'->cD h' false 1 (.p n (0+0+0))=some (.i .i64 (o:Nat)):=λe=>by rw[←ho];exact(cl.ext e).ld U _
 have ls:∀{h' n'},Ext h1 n1 h' n'->cD h' false 1 (.p n (0+0+1))=some (st x.sort):=λe=>(cl.ext e).ld U _;have ln:∀{h' n'},Ext h1 n1 h' n'->cD h' false 1 (.p n (0+0+2))=some (st x.name):=λe=>(cl.ext e).ld U _;have AH:=hg.ext e1;have rr:=Ext.refl h1 n1;refine θ<|γ U<|ε ?_;refine ν<|θ<|Ω U<|Ω U<|χ U (lo rr)<|H5 U U (by omega)<|Ω U<|χ U (AH.ld (Xw IT).1 _)<|γ U<|ε ?_;have fin:∀(b:Bool) h2 n2,Ext h1 n1 h2 n2->AU x=b->WC C S1 [(k3,.b b)] h2 n2 (fq [.t k2] Q):=by intro b h2 n2 e2 hb;have:=hQ h2 n2 (e1.trans e2);rw[hb]at this;refine θ<|γ U<|al U U<|qf hC.f42<|γ U<|ε (aj ⟨_,rfl,this⟩)
 unfold AU at fin;rw[eE,ho]at fin;generalize pj o=cs at*;refine θ<|γ U<|ε ?_;refine aK<|θ<|gg (b:=[110]) U U<|γ U<|ε ?_;refine di U (λhx=>?_) (λhx=>?_)
 ·simp only[bT]at hx;rw[az hx]at fin;by_cases hs:x.sort=nX\/x.sort=pd
  ·have ds:decide (x.sort=nX\/x.sort=pd)=true:=qo hs;rw[ds]at fin;have IU:∀{Q:V->Hf->K->Prop},Q (.b true) h1 n1->τ C (.f 189 [] []) [st x.sort] h1 n1 Q:=λhQ=>Wp hC (by rw[ds];exact hQ);by_cases h2:o=2
   ·subst h2;have:((2:Nat):Int)=2:=rfl;refine wj<|dG U<|dG U<|bc U (ls rr) U (nQ _ _)<|cJ U U<|IU<|rP U<|aL U<|bF U (rfl)<|dG U<|bF U (rfl)<|dG U<|bF U (rfl)<|bc U (lo rr) U (gS _ _)<|bF U (rfl)<|Ad U U<|bF U (rfl)<|aL U<|bF U (rfl)<|dG U<|bF U (rfl)<|dG U<|bF U (rfl)<|bc U (ln rr) U (nQ _ _)<|bF U (rfl)<|cJ U U<|Ff hC hl <| λh2 n2 e2=>bF U (rfl)<|Ad U U<|bF U (rfl)<|dG U<|bF U (rfl)<|dG U<|bF U (rfl)<|bc U (ls e2) U (nQ _ _)<|bF U (rfl)<|adg (b:=[73,110,116]) U U<|bF U (rfl)<|adh U U<|bF U (rfl)<|BV U (rfl) U<|rO U (rfl) U<|aL U<|dQ (⟨⟨dJ (ls rr) (ls e2),ak (by simp[Nat.testBit]),trivial⟩,⟨ak (by simp[Nat.testBit]),ak (by simp[Nat.testBit]),trivial⟩,⟨ak (by simp[Nat.testBit]),ak (by simp[Nat.testBit]),trivial⟩,⟨ak (by simp[Nat.testBit]),ak (by simp[Nat.testBit]),trivial⟩,trivial⟩) ?_;exact ae (fin _ h2 n2 e2 (by simp;rfl)) ⟨rfl,trivial⟩
   ·refine wj<|dG U<|dG U<|bc U (ls rr) U (nQ _ _)<|cJ U U<|IU<|rP U<|aL U<|bF U (rfl)<|dG U<|bF U (rfl)<|dG U<|bF U (rfl)<|bc U (lo rr) U (gS _ _)<|bF U (rfl)<|Ad U U<|bF U (rfl)<|aL U<|fc U (by simp<;>omega)<|fc U (by simp<;>omega)<|fc U (by simp<;>omega)<|fc U (by simp<;>omega)<|fc U (by simp<;>omega)<|fc U (by simp<;>omega)<|fc U (by simp<;>omega)<|fc U (by simp<;>omega)<|fc U (by simp<;>omega)<|fc U (by simp<;>omega)<|bF U (rfl)<|rO U (by simp<;>omega) U<|rO U (rfl) U<|aL U<|dQ (⟨⟨ak (by simp[Nat.testBit]),trivial⟩,⟨ak (by simp[Nat.testBit]),trivial⟩,trivial⟩) ?_;exact ae (fin false h1 n1 rr (by simp;omega)) ⟨rfl,trivial⟩
  ·have ds:decide (x.sort=nX\/x.sort=pd)=false:=gj hs;rw[ds]at fin;have IU:∀{Q:V->Hf->K->Prop},Q (.b false) h1 n1->τ C (.f 189 [] []) [st x.sort] h1 n1 Q:=λhQ=>Wp hC (by rw[ds];exact hQ);refine wj<|dG U<|dG U<|bc U (ls rr) U (nQ _ _)<|cJ U U<|IU<|rP U<|aL U<|fc U (rfl)<|fc U (rfl)<|fc U (rfl)<|fc U (rfl)<|fc U (rfl)<|uL U<|uL U<|uL U<|uL U<|uL U<|uL U<|uL U<|uL U<|uL U<|uL U<|fc U (rfl)<|BV U (rfl) U<|aL U<|dQ (⟨⟨ak (by simp[Nat.testBit]),trivial⟩,trivial⟩) ?_;exact ae (fin true h1 n1 rr rfl) ⟨rfl,trivial⟩
 simp only[dn]at hx;rw[ai hx]at fin;refine θ<|gg (b:=[115]) U U<|γ U<|ε ?_;refine di U (λjQ=>?_) (λjQ=>?_)
 ·simp only[bT]at jQ;rw[az jQ]at fin;refine aR<|Ω U<|Ω U<|χ U (ls rr)<|gg (b:=[]) U U<|γ U<|ε ?_;exact ae (fin _ h1 n1 rr rfl) ⟨rfl,trivial⟩
 simp only[dn]at jQ;rw[ai jQ]at fin;refine θ<|gg (b:=[45]) U U<|γ U<|ε ?_;refine di U (λmK=>?_) (λmK=>?_)
 ·simp only[bT]at mK;rw[az mK]at fin;refine aR<|Ω U<|Ω U<|χ U (ls rr)<|rN (b:=[]) U U<|γ U<|ε ?_;exact ae (fin _ h1 n1 rr rfl) ⟨rfl,trivial⟩
 simp only[dn]at mK;rw[ai mK]at fin;refine aR<|Ω U<|Ω U<|χ U (ls rr)<|γ U<|rN U U<|γ U<|ε ?_;exact ae (fin _ h1 n1 rr rfl) ⟨rfl,trivial⟩
theorem aj1{s:S}(h:gK s=0):nV s≠0:=by
 obtain⟨hf,_⟩:=Ce h;obtain⟨hd,_⟩:=EI hf;have DS:iK s=false:=by
  cases hs:iK s with
  | false=>rfl
  | true=>
   obtain⟨c,hc,he⟩:=List.any_eq_true.1 hs;simp only[bT]at he;exfalso;cases s with
   | nil=>cases hc
   | cons d l=>
    by_cases Xx:d.toNat=45
    ·rcases fY.1 hc with rfl | hc
     ·omega
     ·have hb:body (d::l)=l:=by simp[body,Xx]
      have:=AB (hd c (by rw[hb];exact hc));omega
    ·have hb:body (d::l)=d::l:=by simp[body,Xx]
     have:=AB (hd c (by rw[hb];exact hc));omega
 have hs:lL s=none:=by unfold lL;rw[Mz DS]
 unfold nV;rw[hs];simp
theorem aj2{x:Nd}(fm:0<=x.op/\x.op<20)(hn:kA x=0):(if AU x then 13 else 0)=nY x:=by
 obtain⟨o,ho⟩:∃o:Nat,x.op=(o:Nat):=⟨x.op.toNat,by omega⟩;have eE:x.op.toNat=o:=by omega
 unfold AU nY;rw[eE];unfold kA at hn;rw[ho]at hn ⊢;have i2:((o:Int)=2)↔o=2:=by omega
 have i3:((o:Int)=3)↔o=3:=by omega
 have i4:((o:Int)=4)↔o=4:=by omega
 have i10:((o:Int)=10)↔o=10:=by omega
 have i12:((o:Int)=12)↔o=12:=by omega
 have i13:((o:Int)=13)↔o=13:=by omega
 have i14:((o:Int)=14)↔o=14:=by omega
 have i19:((o:Int)=19)↔o=19:=by omega
 simp only[i2,i3,i4,i10,i12,i13,i14,i19]at hn ⊢;by_cases h2:o=2
 ·subst h2;have hc:pj 2=[110]:=rfl;rw[hc,az rfl,az rfl];rw[az rfl]at hn;have oa:gK x.name=0\/nV x.name=0:=by
   cases hi:isNumeral x.name with
   | true=>simpa[isNumeral]using hi
   | false=>rw[hi]at hn;simp at hn
  have Y3:x.sort=nX->¬ x.sort=pd:=λe=>by rw[e];decide
  have hsR:x.sort=pd->¬ x.sort=nX:=λe=>by rw[e];decide
  by_cases h1:x.sort=nX
  ·have:=Y3 h1;by_cases h3:gK x.name=0
   ·simp[h1,h3]
   ·simp[h1,h3]
  ·by_cases h4:x.sort=pd
   ·have:=hsR h4;by_cases h3:gK x.name=0
    ·have:=aj1 h3;simp[h1,h4,h3,this]
    ·have:nV x.name=0:=oa.resolve_left h3;simp[h1,h4,h3,this]
   ·simp[h1,h4]
 ·rw[ai h2];by_cases km:o=12\/o=13\/o=14
  ·have hc:pj o=[110]:=by simp[pj,km]
   rw[hc,az rfl,az km];by_cases h1:x.sort=nX\/x.sort=pd<;>simp[h1,h2]
  ·rw[ai km];have NM:¬ (o=2\/o=12\/o=13\/o=14):=λh=>by omega
   by_cases h3:o=3\/o=4\/o=10
   ·have hc:pj o=[115]:=by unfold pj;rw[ai NM,az h3]
    rw[hc,az h3];by_cases h1:x.sort=[]<;>simp[h1]
   ·rw[ai h3];by_cases FA:o=19
    ·have hc:pj o=[45]:=by unfold pj;rw[ai NM,ai h3,az FA]
     rw[hc,az FA];by_cases h1:x.sort=[]<;>simp[h1]
    ·have hc:pj o=Cj:=by unfold pj;rw[ai NM,ai h3,ai FA]
     rw[hc,ai FA];by_cases h1:x.sort=Cj<;>simp[h1]
theorem aj3{o:Nat}(h:o<20)(k:Nat):jj (o:Int) k=!(decide (0<=yT o/\(k:Int)≠yT o)||decide (yT o = -2/\k=0)):=by
 have:o=0\/o=1\/o=2\/o=3\/o=4\/o=5\/o=6\/o=7\/o=8\/o=9\/o=10\/o=11\/o=12\/o=13\/o=14\/o=15\/o=16\/o=17\/o=18\/o=19:=by omega
 rcases this with rfl | rfl | rfl | rfl | rfl | rfl | rfl | rfl | rfl | rfl | rfl | rfl | rfl | rfl | rfl | rfl | rfl | rfl | rfl | rfl<;>simp[jj,yT]<;>(try omega)<;>(cases k<;>simp<;>omega)
end
section
variable {C:Nat->Option bP}{h:Hf}{n:K}{Q:V->Hf->K->Prop}
theorem aj4{ts:List Nd}:∀(j i m:Nat),(∀k,k<j->nZ ts (i+k)=0)->nZ ts (i+j)≠0->j<m->mA ts m i=nZ ts (i+j):=by
 intro j
 induction j with
 | zero=>
  intro i m hz bC hm;cases m with
  | zero=>omega
  | succ m=>rw[j8]at bC;rw[mA,az bC,j8]
 | succ j ih=>
  intro i m hz bC hm;cases m with
  | zero=>omega
  | succ m=>
   rw[mA,ai (by simpa using hz 0 (by omega)),ih (i+1) m (λk hk=>by rw[show i+1+k=i+(k+1) by omega];exact hz _ (by omega)) (by rw[show i+1+j=i+(j+1) by omega];exact bC) (by omega)];congr 1;omega
theorem aj5{ts:List Nd}:∀(m i:Nat),(∀k,k<m->nZ ts (i+k)=0)->mA ts m i=0:=by
 intro m
 induction m with
 | zero=>intro i hz;rfl
 | succ m ih=>
  intro i hz;rw[mA,ai (by simpa using hz 0 (by omega))];exact ih (i+1) λk hk=>by rw[show i+1+k=i+(k+1) by omega];exact hz _ (by omega)
theorem NN{ts:List Nd}{i:Nat}(hi:i<ts.length)(h:nZ ts i=0):ord ts i=true:=by
 rw[IJ hi]at h;by_cases h5:mz ts ts[i] i=0
 ·exact M8 h5
 ·rw[az h5]at h;exact absurd h h5
section
variable {b1 b2 b4:K}{t vv kv:V}{ts:List Nd}{i:Nat}
theorem aj6(hC:Cd C)(hb:Bd ts)(hg:Gl h n)(hi:i<ts.length)(ht:db h n t ts)(hv:fC h n vv ts[i].vars)(hk:gh h n .i64 kv ts[i].kids)(ho:∀j,j<i->ord ts j=true)
 (c1:Cl h n b1 [t] 23)(c2:Cl h n b2 [.i .i64 0] 29)(cl:Cl h n b4 (pc ts[i] vv kv i) 141){Q1:Ex->Env->Hf->K->Prop}
 (wV:∀e h1 h' n' E',e=nZ ts i->e≠0->Ext h n h1 n'->df b2 h1 h'->h' b2=some (.c [.i .i64 e] 29 0)->Q1 .ret E' h' n')
 (rS:nZ ts i=0->∀h' n' E',Ext h n h' n'->Q1 .normal E' h' n'):
 WC C Sl [(k1,.p b1 0),(k2,.p b2 0),(k4,.p b4 0)] h n Q1:=by
 have hlen:=hb.len;have bC:=IJ hi;have hO:mz ts ts[i] i=if rX ts[i].op then 11 else if jj ts[i].op ts[i].kids.length=false then 2 else if ord ts i=false then 9 else 0:=by unfold mz;rw[MX];cases rX ts[i].op<;>cases jj ts[i].op ts[i].kids.length<;>cases ord ts i<;>simp
 have lo:cD h false 1 (.p b4 (0+0+0))=some (.i .i64 ts[i].op):=cl.ld U _;by_cases FB:rX ts[i].op=true
 ·rw[hO,az FB,az (by decide)]at bC;have fin:∀E,da [(k2,.p b2 0)] E->WC C Sg E h n (sq C Sk Q1):=by
   intro E hE;refine dB hE ?_;refine θ<|ct U U c2.2 U <| λh7 a7 b7=>ε ?_;exact aj (wV 11 h h7 n _ bC.symm (by decide) (Ext.refl _ _) b7 a7)
  by_cases h0:ts[i].op<0
  ·refine ν<|θ<|Ω U<|Ω U<|χ U lo<|aP U U<|γ U<|σ U (by simp[h0])<|σ U (by simp[h0])<|σ U (by simp[h0])<|σ U (by simp[h0])<|cg U (by simp[h0]) U<|ε ?_;exact aD U (by simp[h0])<|fin _ ⟨rfl,trivial⟩
  ·have JT:20<=ts[i].op:=by simpa[rX,h0]using FB
   refine ν<|θ<|Ω U<|Ω U<|χ U lo<|aP U U<|γ U<|κ U (by simp[h0])<|Ω U<|κ U (by simp[h0])<|Ω U<|κ U (by simp[h0])<|χ U lo<|κ U (by simp[h0])<|fU U U<|bE U (by simp[h0]) U<|ε ?_;exact aD U (by simp[JT])<|fin _ ⟨rfl,trivial⟩
 ·simp only[Dl]at FB;rw[FB]at hO;have fm:0<=ts[i].op/\ts[i].op<20:=by
   simp only[rX,Dj,dn]at FB;omega
  refine ν<|θ<|Ω U<|Ω U<|χ U lo<|aP U U<|γ U<|κ U (by simp<;>omega)<|Ω U<|κ U (by simp<;>omega)<|Ω U<|κ U (by simp<;>omega)<|χ U lo<|κ U (by simp<;>omega)<|fU U U<|bE U (by simp<;>omega) U<|ε ?_;refine aE U (by simp<;>omega)<|ao ?_;obtain⟨o,hoo⟩:∃o:Nat,ts[i].op=(o:Nat):=⟨ts[i].op.toNat,by omega⟩;have IT:o<20:=by omega
  have wb:cD h false 1 (.p b4 (0+0+0))=some (.i .i64 (o:Nat)):=by rw[←hoo];exact lo
  have Zs:cD h false 1 (.p b4 (0+0+4))=some kv:=cl.ld U _;refine θ<|Ω U<|Ω U<|χ U wb<|H5 U U (by omega)<|Ω U<|χ U (hg.ld (Xw IT).2 _)<|γ U<|ε ?_;have JU:=aj3 IT ts[i].kids.length;rw[←hoo]at JU;have next:jj ts[i].op ts[i].kids.length=true->∀E,da [(k1,.p b1 0),(k2,.p b2 0),(k4,.p b4 0)] E->WC C Ig E h n Q1:=by
   intro hs E hE;rw[hs]at hO;refine dB hE ?_;have um:WC C Ig [(k1,.p b1 0),(k2,.p b2 0),(k4,.p b4 0)] h n Q1:=by
    refine ν<|θ<|χ U (c1.ld U _)<|χ U (cz cl.2 rfl)<|al U U<|w97 hC ht (by omega) hi hk (hb.qg i hi) (ρ.one hv) ho <| λh2 n2 e2=>dR U<|ε ?_;by_cases Cq:ord ts i=true
    ·rw[Cq]at hO ⊢;have NO:mz ts ts[i] i=0:=by rw[hO];rfl
     rw[NO,ai (by simp)]at bC;refine aE U U<|ao ?_;have j7:=EY hi Cq;have x1:∀{h' n'},Ext h2 n2 h' n'->Ext h n h' n':=λe=>e2.trans e;have be:∀{n':K},n.num<=n'.num->cu n' (.a (pc ts[i] vv kv i))=true:=by intro n' hn;have h1:=ρ.below hv hn;have h2:=ρ.below hk hn;simp only[cu,pc,gZ,h1,h2];rfl
     have ve:dH (.a (pc ts[i] vv kv i)) (.a (pc ts[i] vv kv i))=true:=by have h1:=ρ.dX hv;have h2:=ρ.dX hk;simp only[dH,pc];exact tj (gS _ _) (tj (nQ _ _) (tj (nQ _ _) (tj h1 (tj h2 (tj (gS _ _) U)))))
     obtain⟨cs,sj⟩:=ht.sl;have bt:=ρ.below sj (n':=n2) (by have:=e2.1;omega);have row:∀{H:Hf},Ag n2 h2 H->cD H true 6 (.p b4 0)=some (.a (pc ts[i] vv kv i)):=λag=>cz ((cl.ext e2).ext (ag.x (Γ _))).2 rfl;have z2:=e2.1;have hz:∀(z:Int),(if AU ts[i] then 13 else 0)=z->eD [if nW ts ts[i].op ts[i].kids.length ts[i].kids 0 then 11 else 0,kA ts[i],kB ts[i],z]=AJ ts ts[i]:=by
      intro z hz;unfold AJ;rw[WN,WN];by_cases hn:kA ts[i]=0
      ·rw[←hz,aj2 fm hn]
      ·rw[az hn,az hn]
     refine eS<|bc U ((c1.ext e2).ld U _) bt (ρ.dX sj)<|bc U (row (Ag.refl _ _)) (be z2) ve<|cJ U U<|w98 hC (ht.ext e2) (by omega) (ρ.one hv) (hk.ext e2) (hb.qg i hi) j7 <| λh3 n3 e3=>bc U (row e3.ag) (be (by have:=e3.1;omega)) ve<|cJ U U<|w99 hC (ρ.one hv) (ρ.one hk) (hb.nm i hi) <| λh4 n4 e4=>bc U (row (e3.trans e4).ag) (be (by have:=e3.1;have:=e4.1;omega)) ve<|cJ U U<|ajZ hC (hv.ext (e2.trans (e3.trans e4))) (ρ.one hk) (hb.vl i hi) (hb.vn i hi) <| λh5 n5 e5=>bc U (row ((e3.trans e4).trans e5).ag) (be (by have:=e3.1;have:=e4.1;have:=e5.1;omega)) ve<|cJ U U<|aj0 hC (hg.ext (e2.trans ((e3.trans e4).trans e5))) fm (ρ.one hv) (ρ.one hk) (hb.nm i hi) <| λh6 n6 e6=>uW U <| λh7 n7 wQ a7 e7=>cJ U U<|Ba hC.f41 (l:=[if nW ts ts[i].op ts[i].kids.length ts[i].kids 0 then 11 else 0,kA ts[i],kB ts[i],if AU ts[i] then 13 else 0]) (ρ.whole (len:=4) (by omega) a7 rfl) (by simp)<|aL U<|dQ (⟨⟨ak (by simp[Nat.testBit]),ak (by simp[Nat.testBit]),dJ (row ((e3.trans e4).ag.hp n6 none (((e3.trans e4).trans e5).trans e6).1)) (row (((e3.trans e4).trans e5).ag.hp n6 none (((e3.trans e4).trans e5).trans e6).1)),dJ (row (e3.ag.hp n6 none (((e3.trans e4).trans e5).trans e6).1)) (row ((e3.trans e4).ag.hp n6 none (((e3.trans e4).trans e5).trans e6).1)),dJ (row ((Ag.refl _ _).hp n6 none (((e3.trans e4).trans e5).trans e6).1)) (row (e3.ag.hp n6 none (((e3.trans e4).trans e5).trans e6).1)),trivial⟩,⟨ak (by simp[Nat.testBit]),ak (by simp[Nat.testBit]),ak (by simp[Nat.testBit]),dJ (row (e3.ag.hp n6 none (((e3.trans e4).trans e5).trans e6).1)) (row ((e3.trans e4).ag.hp n6 none (((e3.trans e4).trans e5).trans e6).1)),dJ (row ((Ag.refl _ _).hp n6 none (((e3.trans e4).trans e5).trans e6).1)) (row (e3.ag.hp n6 none (((e3.trans e4).trans e5).trans e6).1)),trivial⟩,⟨ak (by simp[Nat.testBit]),ak (by simp[Nat.testBit]),ak (by simp[Nat.testBit]),ak (by simp[Nat.testBit]),dJ (row ((Ag.refl _ _).hp n6 none (((e3.trans e4).trans e5).trans e6).1)) (row (e3.ag.hp n6 none (((e3.trans e4).trans e5).trans e6).1)),trivial⟩,⟨ak (by simp[Nat.testBit]),ak (by simp[Nat.testBit]),ak (by simp[Nat.testBit]),ak (by simp[Nat.testBit]),ak (by simp[Nat.testBit]),trivial⟩,⟨ak (by simp[Nat.testBit]),ak (by simp[Nat.testBit]),ak (by simp[Nat.testBit]),ak (by simp[Nat.testBit]),ak (by simp[Nat.testBit]),trivial⟩,trivial⟩) ?_
     rw[hz _ rfl];have NG:Ext h n h7 n7:=e2.trans ((((e3.trans e4).trans e5).trans e6).trans e7);refine θ<|γ U<|fT U U<|ε ?_;by_cases qv:AJ ts ts[i]=0
     ·exact aE U (by simp[qv])<|ao<|rS (by rw[bC,qv]) _ _ _ NG
     ·refine aD U (by simp[qv]) ?_;refine θ<|γ U<|ct U U ((c2.ext NG).2) U <| λh8 a8 b8=>ε ?_;exact aj (wV _ h7 h8 n7 _ bC.symm qv NG b8 a8)
    ·simp only[Dl]at Cq;rw[Cq]at hO ⊢;have NO:mz ts ts[i] i=9:=by rw[hO];rfl
     rw[NO,az (by decide)]at bC;refine aD U U ?_;refine θ<|ct U U ((c2.ext e2).2) U <| λh8 a8 b8=>ε ?_;exact aj (wV 9 h2 h8 n2 _ bC.symm (by decide) e2 b8 a8)
   exact um
  have bad:jj ts[i].op ts[i].kids.length=false->∀E,da [(k2,.p b2 0)] E->WC C Sj E h n (sq C Ig Q1):=by
   intro hs E hE;rw[hs]at hO;have NO:mz ts ts[i] i=2:=by rw[hO];rfl
   rw[NO,az (by decide)]at bC;refine dB hE ?_;refine θ<|ct U U c2.2 U <| λh7 a7 b7=>ε ?_;exact aj (wV 2 h h7 n _ bC.symm (by decide) (Ext.refl _ _) b7 a7)
  by_cases iD:0<=yT o
  ·by_cases eU:(ts[i].kids.length:Int)=yT o
   ·refine ν<|θ<|γ U<|fU U U<|γ U<|κ U (by simp[iD])<|Ω U<|κ U (by simp[iD])<|Ω U<|κ U (by simp[iD])<|χ U Zs<|κ U (by simp[iD])<|aG U hk<|κ U (by simp[iD])<|γ U<|κ U (by simp[iD])<|fT U U<|cg U (by simp[iD]) U<|γ U<|κ U (by simp[eU])<|γ U<|κ U (by simp[eU])<|bQ U U<|κ U (by simp[eU])<|γ U<|σ U (by simp<;>omega)<|σ U (by simp<;>omega)<|σ U (by simp<;>omega)<|σ U (by simp<;>omega)<|σ U (by simp<;>omega)<|κ U (by simp[eU])<|bE U (by simp<;>omega) U<|bE U (by simp[eU]) U<|ε ?_;refine aE U U<|ao<|next ?_ _ ⟨rfl,rfl,rfl,trivial⟩;rw[JU];simp[eU];omega
   ·refine ν<|θ<|γ U<|fU U U<|γ U<|κ U (by simp[iD])<|Ω U<|κ U (by simp[iD])<|Ω U<|κ U (by simp[iD])<|χ U Zs<|κ U (by simp[iD])<|aG U hk<|κ U (by simp[iD])<|γ U<|κ U (by simp[iD])<|fT U U<|cg U (by simp[iD]) U<|γ U<|σ U (by simp[eU])<|σ U (by simp[eU])<|σ U (by simp[eU])<|eX U<|eX U<|eX U<|eX U<|eX U<|σ U (by simp[eU])<|cg U (by simp[eU]) U<|ε ?_;refine aD U (by simp[eU])<|bad ?_ _ ⟨rfl,trivial⟩;rw[JU];simp[eU,iD]
  ·by_cases pB:yT o = -2
   ·refine ν<|θ<|γ U<|fU U U<|γ U<|σ U (by simp[iD])<|σ U (by simp[iD])<|σ U (by simp[iD])<|σ U (by simp[iD])<|σ U (by simp[iD])<|σ U (by simp[iD])<|bE U (by simp[iD]) U<|γ U<|κ U U<|γ U<|κ U U<|bQ U U<|κ U U<|γ U<|κ U (by simp[pB])<|Ω U<|κ U (by simp[pB])<|Ω U<|κ U (by simp[pB])<|χ U Zs<|κ U (by simp[pB])<|aG U hk<|κ U (by simp[pB])<|bQ U U<|κ U U<|cg U (by simp[pB]) U<|bE U U U<|ε ?_;by_cases eU:ts[i].kids.length=0
    ·refine aD U (by simp[eU])<|bad ?_ _ ⟨rfl,trivial⟩;rw[JU];simp[eU,pB]
    ·refine aE U (gj (by omega))<|ao<|next ?_ _ ⟨rfl,rfl,rfl,trivial⟩;rw[JU];simp[eU,iD]
   ·refine ν<|θ<|γ U<|fU U U<|γ U<|σ U (by simp[iD])<|σ U (by simp[iD])<|σ U (by simp[iD])<|σ U (by simp[iD])<|σ U (by simp[iD])<|σ U (by simp[iD])<|bE U (by simp[iD]) U<|γ U<|κ U U<|γ U<|κ U U<|bQ U U<|κ U U<|γ U<|σ U (by simp[pB])<|σ U (by simp[pB])<|σ U (by simp[pB])<|σ U (by simp[pB])<|σ U (by simp[pB])<|κ U U<|bE U (by simp[pB]) U<|bE U U U<|ε ?_;refine aE U U<|ao<|next ?_ _ ⟨rfl,rfl,rfl,trivial⟩;rw[JU];simp[iD,pB]
end
end
section
variable {C:Nat->Option bP}{h:Hf}{n:K}{Q:V->Hf->K->Prop}
theorem JV(hC:Cd C){t:V}{ts:List Nd}(hb:Bd ts)(hg:Gl h n)(ht:db h n t ts)(hQ:∀h' n',Ext h n h' n'->Q (.i .i64 (dN ts)) h' n'):τ C (.f 36 [] []) [t] h n Q:=by
 obtain⟨m,tm⟩:=ht.get;obtain⟨cs,hs⟩:=ht.sl;have hlen:=hb.len;refine τ.go hC.f36 U ?_;refine θ<|eL U hs.cells (fA hs.one) <| λh1 n1 dZ a1 e1=>ea <| λh2 n2 fB a2 e2=>ε ?_;have x2:=e1.trans e2;have c1:Cl h2 n2 n [t] 23:=Cl.ext ⟨by omega,a1⟩ e2;have c2:Cl h2 n2 n1 [.i .i64 0] 29:=⟨by omega,a2⟩;have mV:=hs.ext x2;have l1:∀{H:Hf},Ag n2 h2 H->cD H false 1 (.p n 0)=some t:=λag=>(c1.ext (ag.x (Γ _))).ld U _;have be:∀{n':K},n2.num<=n'.num->cu n' t=true:=λhn=>mV.below hn;have ve:=ρ.dX mV;clear a1 a2;refine ν<|eS<|bc U (l1 (Ag.refl _ _)) (be (Γ _)) ve<|Ed U mV<|Ad U U<|cJ U U<|qf hC.f42<|bc U (l1 (Ag.refl _ _)) (be (Γ _)) ve<|Ed U mV<|wA U U<|cJ U U<|qf hC.f42<|uW U <| λh3 n3 lz a3 e3=>cJ U U<|Ba hC.f41 (l:=[if decide ((ts.length:Int)=0) then 10 else 0,if decide ((2000:Int)<ts.length) then 5 else 0]) (ρ.whole (len:=2) (by omega) a3 rfl) (by simp)<|aL U<|dQ (⟨⟨ak (by simp[Nat.testBit]),ak (by simp[Nat.testBit]),Ay trivial trivial,trivial⟩,⟨ak (by simp[Nat.testBit]),ak (by simp[Nat.testBit]),dJ (l1 ((Ag.refl _ _).hp n2 none (Γ _))) (l1 ((Ag.refl _ _).hp n2 none (Γ _))),trivial⟩,⟨ak (by simp[Nat.testBit]),ak (by simp[Nat.testBit]),ak (by simp[Nat.testBit]),trivial⟩,⟨ak (by simp[Nat.testBit]),ak (by simp[Nat.testBit]),ak (by simp[Nat.testBit]),trivial⟩,trivial⟩) ?_
 rw[AE];have x3:=x2.trans e3;have d2:=c2.ext e3;have ret:∀(e:Int),e=dN ts->∀E,da [(k2,.p n1 0),(k3,.i .i64 e)] E->WC C Sf E h3 n3 (sq C Sn (fq [.cell k2 false 1] Q)):=by intro e hf E hE;refine dB hE ?_;refine θ<|γ U<|ct U U d2.2 U <| λh7 a7 b7=>ε ?_;refine aj ⟨_,kP rfl (dV a7 rfl _),?_⟩;rw[hf];exact hQ _ _ (x3.aA b7 (by omega))
 refine θ<|γ U<|fT U U<|ε ?_;by_cases h1:ts.length=0
 ·refine aD U (by simp[h1]) ?_;exact ret 10 (by simp[dN,h1]) _ ⟨rfl,by show some (V.i _ _)=_;simp[h1],trivial⟩
 by_cases h2:2000<ts.length
 ·refine aD U (by simp[h1]<;>omega) ?_;refine ret 5 (by simp[dN,h1,h2]) _ ⟨rfl,?_,trivial⟩;show some (V.i _ _)=_;rw[ai (by simp[h1]),az (by simp<;>omega)]
 refine aE U ?_<|ao ?_
 ·rw[ai (by simp[h1]),ai (by simp<;>omega)];rfl
 have lN:=c1.ext e3;refine ν<|θ<|χ U (lN.ld U _)<|al U U<|w82 hC (tm.ext x3) (by omega) ?_;intro bb e h4 n4 x4 a4 A1 agE it;refine ε ?_;have y3:=e3.1;have y4:=x4.1;let I:Nat->Hf->K->Prop:=λj h' n'=>Ext h3 n3 h' n'/\(bb.num<n'.num/\h' bb=some (.c [t] e 0))/\∀i,i<j->nZ ts i=0;let Dr:Ex->Hf->K->Prop:=λex h' n'=>ex=.ret/\∃h1,Ext h3 n3 h1 n'/\df n1 h1 h'/\h' n1=some (.c [.i .i64 (dN ts)] 29 0);refine aK<|BY U it I Dr ?_ ?_ ?_ ?_ ?_ ?_ ?_ ?_
 ·rintro j h1 m1 h' n' ⟨g1,⟨g2,g3⟩,g5⟩ ex;exact⟨g1.trans ex,⟨fN g2 ex.1,by rw[ex.2 _ g2];exact g3⟩,g5⟩
 ·rintro j h1 m1 h' ⟨g1,⟨g2,g3⟩,g5⟩ bt;exact⟨g1.aA bt (by omega),⟨g2,by rw[bt _ (by omega)];exact g3⟩,g5⟩
 ·rintro j h1 m1 ⟨g1,g2,_⟩;exact⟨g2.1,g2.2,tm.ext (x3.trans g1)⟩
 ·intro j hj;rw[EN];rfl
 ·intro h' bt;have O0:n4.succ.num=n4.num+1:=K.fH n4;exact⟨(x4.aA bt (by omega)).succ,⟨by omega,by rw[bt _ (by omega)];exact a4⟩,λi hi=>by omega⟩
 ·rintro j hj h5 n5 E1 qK ⟨g1,⟨g2,g3⟩,g5⟩ j6;have fb:j<ts.length:=by rw[Cf]at hj;exact hj
  rw[EN]at j6;simp only[mS,rq]at j6;subst j6;obtain⟨vv,kv,iS,qe,m6⟩:=tm.row fb;rw[iS,Wn];have eF:=Ci ts[j] (ρ.one qe) (ρ.one m6) (i:=j);refine aR<|ea <| λh6 n6 pz a6 e6=>ct U U a6 (ff rfl rfl eF) <| λh7 a7 b7=>ε ⟨rfl,by rw[b7 _ (by omega),e6.2 _ qK],λh8 b8=>?_⟩;have c4:Cl h8 n6 n5 (pc ts[j] vv kv j) 141:=(Cl.aA ⟨by omega,a7⟩ b8 (by omega));have g11:=g1.1;have x8:Ext h3 n3 h8 n6:=((g1.trans e6).aA b7 (by omega)).aA b8 (by omega);have xx:=x3.trans x8;refine aK<|ae (aj6 hC hb (hg.ext xx) fb (ht.ext xx) (qe.ext xx) (m6.ext xx) (λi hi=>NN (by omega) (g5 i hi)) (lN.ext x8) (d2.ext x8) c4 ?_ ?_) ⟨rfl,rfl,rfl,trivial⟩
  ·intro er h9 h' n' E' he bC e9 b9 a9;have z9:=e9.1;have hf:dN ts=er:=by
    have wS:=aj4 (ts:=ts) j 0 ts.length (λk hk=>by rw[hY];exact g5 k hk) (by rw[hY,←he];exact bC) fb;rw[hY,←he]at wS;unfold dN;rw[ai h1,ai h2,wS,az bC]
   refine⟨by omega,(b9 _ (by omega)).trans (e9.2 _ (by omega)),rfl,h9,x8.trans e9,b9,by rw[hf];exact a9⟩
  ·intro he h' n' E' e9;have z9:=e9.1;refine⟨by omega,e9.2 _ (by omega),x8.trans e9,⟨by omega,?_⟩,λi hi=>?_⟩
   ·rw[e9.2 _ (by omega),b8 _ (by omega),b7 _ (by omega),e6.2 _ g2];exact g3
   ·by_cases ua:i=j
    ·rw[ua];exact he
    ·exact g5 i (by omega)
 ·rintro h' n' qK ⟨g1,⟨g2,g3⟩,g5⟩;rw[Cf]at g5;have ho:∀j,j<ts.length->ord ts j=true:=λj hj=>NN hj (g5 j hj);have hz:mA ts ts.length 0=0:=aj5 _ _ λk hk=>by rw[hY];exact g5 k hk
  have hfe:dN ts=AK ts:=by unfold dN;rw[ai h1,ai h2,hz,ai (by simp)]
  have xx:=x3.trans g1;have Pf:=ht.ext xx;obtain⟨csF,Pg⟩:=Pf.sl;have lA:ts.length - 1<ts.length:=by omega
  have cF:=lN.ext g1;have dF:=d2.ext g1;refine θ<|χ U (cF.ld U _)<|aG U Pg<|kQ U U (show(ts.length:Int) - 1=((ts.length - 1:Nat):Int) by omega) ⟨by omega,by omega⟩<|γ U<|ε ?_;have lt:∀{H:Hf},Ag n' h' H->cD H false 1 (.p n 0)=some t:=λag=>(cF.ext (ag.x (Γ _))).ld U _;have EZ:∀{H:Hf},Ag n' h' H->cD H false 1 (.p t.blk (t.off+(ts.length - 1)*5+0))=some (.i .i64 (tJ ts (ts.length - 1))):=λag=>by obtain⟨vv,kv,hx⟩:=(Pf.ext (ag.x (Γ _))).node lA;have:=hx.op 1;rw[←EO lA]at this;exact this
  have Zt:∀{oe:K},n'.num<=oe.num->cu oe t=true:=λhn=>Pg.below hn;have Zu:=ρ.dX Pg;refine eS<|bc U (lt (Ag.refl _ _)) (Zt (Γ _)) Zu<|aL U<|cJ U U<|ME hC.f102 Pf (by omega) lA (λj hj=>ho j (by omega))<|Eh U U<|cJ U U<|qf hC.f42<|bc U (lt (Ag.refl _ _)) (Zt (Γ _)) Zu<|aL U<|et U U Pg lA<|dG U<|bc U (EZ (Ag.refl _ _)) U (gS _ _)<|Ad U U<|cJ U U<|qf hC.f42<|bc U (lt (Ag.refl _ _)) (Zt (Γ _)) Zu<|cJ U U<|agD hC Pf (by omega) (by omega) hb.qg ho <| λh6 n6 e6=>wA U U<|cJ U U<|qf hC.f42<|uW U <| λh7 n7 wQ a7 e7=>cJ U U<|Ba hC.f41 (l:=[if (!decide (((fs ts (ts.length - 1):Nat):Int)=0)) then 9 else 0,if decide (tJ ts (ts.length - 1)=19) then 11 else 0,if decide (60<EP ts) then 24 else 0]) (ρ.whole (len:=3) (by omega) a7 rfl) (by simp)<|gH U U (((dF.ext e6).ext e7).2) U <| λh8 a8 b8=>dQ (⟨⟨ak (by simp[Nat.testBit]),ak (by simp[Nat.testBit]),ak (by simp[Nat.testBit]),ak (by simp[Nat.testBit]),dJ (lt ((Ag.refl _ _).hp n6 none e6.1)) (lt ((Ag.refl _ _).hp n6 none e6.1)),dJ (lt ((Ag.refl _ _).hp n6 none e6.1)) (lt ((Ag.refl _ _).hp n6 none e6.1)),dJ (lt ((Ag.refl _ _).hp n6 none e6.1)) (lt ((Ag.refl _ _).hp n6 none e6.1)),trivial⟩,⟨ak (by simp[Nat.testBit]),ak (by simp[Nat.testBit]),ak (by simp[Nat.testBit]),ak (by simp[Nat.testBit]),ak (by simp[Nat.testBit]),dJ (EZ ((Ag.refl _ _).hp n6 none e6.1)) (EZ ((Ag.refl _ _).hp n6 none e6.1)),dJ (EZ ((Ag.refl _ _).hp n6 none e6.1)) (EZ ((Ag.refl _ _).hp n6 none e6.1)),trivial⟩,⟨ak (by simp[Nat.testBit]),ak (by simp[Nat.testBit]),ak (by simp[Nat.testBit]),ak (by simp[Nat.testBit]),ak (by simp[Nat.testBit]),dJ (lt ((Ag.refl _ _).hp n6 none e6.1)) (lt ((Ag.refl _ _).hp n6 none e6.1)),dJ (lt ((Ag.refl _ _).hp n6 none e6.1)) (lt ((Ag.refl _ _).hp n6 none e6.1)),trivial⟩,⟨ak (by simp[Nat.testBit]),ak (by simp[Nat.testBit]),ak (by simp[Nat.testBit]),ak (by simp[Nat.testBit]),ak (by simp[Nat.testBit]),ak (by simp[Nat.testBit]),ak (by simp[Nat.testBit]),trivial⟩,trivial⟩) ?_
  refine aj ⟨_,kP rfl (dV a8 rfl _),?_⟩;have hl:AK ts=eD [if (!decide (((fs ts (ts.length - 1):Nat):Int)=0)) then 9 else 0,if decide (tJ ts (ts.length - 1)=19) then 11 else 0,if decide (60<EP ts) then 24 else 0]:=by unfold AK;simp only[bT];congr 1;simp
  have:=hQ h8 n7 (((xx.trans e6).trans e7).aA b8 (by omega));rw[hfe,hl]at this;exact this
 ·rintro ex h' n' qG qK ⟨rfl,nu,g1,g2,g3⟩ bt;have z:=g1.1;have zz:=(d2.ext g1).1;refine⟨_,kP rfl (dV (show qG n1=_ by rw[bt _ (by omega)];exact g3) U _),?_⟩;exact hQ _ _ (((x3.trans g1).aA g2 (by omega)).aA bt (by omega))
end
end Go.Ev.X
namespace Go.Ev.X
open Go Go.Ev
theorem aj8{ts:List Nd}:∀(m i:Nat),mA ts m i=0->∀k,k<m->nZ ts (i+k)=0:=by
 intro m
 induction m with
 | zero=>intro i _ k hk;omega
 | succ m ih=>
  intro i h k hk;rw[mA]at h;by_cases h0:nZ ts i=0
  ·rw[ai (by simp[h0])]at h;cases k with
   | zero=>exact h0
   | succ k=>have:=ih (i+1) h k (by omega);rw[show i+(k+1)=i+1+k by omega];exact this
  ·rw[az h0]at h;exact absurd h h0
theorem NP{ts:List Nd}(hb:Bd ts)(h:dN ts=0):Rt ts/\ts.length<=2000/\fs ts (ts.length - 1)=0:=by
 unfold dN at h;by_cases h1:ts.length=0
 ·rw[az h1]at h;exact absurd h (by decide)
 rw[ai h1]at h;by_cases h2:2000<ts.length
 ·rw[az h2]at h;exact absurd h (by decide)
 rw[ai h2]at h;by_cases h3:mA ts ts.length 0=0
 ·rw[ai (by simp[h3])]at h;refine⟨⟨hb,by omega,λj hj=>NN hj (by have:=aj8 _ _ h3 j hj;rwa [hY]at this)⟩,by omega,?_⟩;unfold AK at h;rw[MX]at h;by_cases h4:fs ts (ts.length - 1)=0
  ·exact h4
  ·rw[ai h4,az (by decide)]at h;exact absurd h (by decide)
 ·rw[az h3]at h;exact absurd h h3
end Go.Ev.X
namespace Go.Ev.X
open Go Go.Ev
attribute [local irreducible] WC WO WD SO τ
section
variable {C:Nat->Option bP}{h:Hf}{n:K}{Q:V->Hf->K->Prop}
theorem aj9{ts:List Nd}(h:ph ts=true):Bd ts:=by
 simp only[ph,bG,ru]at h;obtain⟨h1,h2⟩:=h;have hn:∀i (hi:i<ts.length),pW ts[i]=true:=λi hi=>h2 _ (dU hi);have hl:ts.length<100000:=by
  by_cases h3:120<ts.length
  ·have:ts.length=2001:=by simpa[h3]using h1
   omega
  ·omega
 have hs:∀i (hi:i<ts.length),ts[i].name.length<=200/\ts[i].kids.length<=12/\ts[i].vars.length<=8/\∀v∈ts[i].vars,v.1.length<=200:=λi hi=>by have:=hn i hi;simp only[pW,IK,bG,vN,dn,bT,ru]at this;obtain⟨g1,_,_,_,g2,g3,g4⟩:=this;refine⟨by omega,by omega,by omega,λv hv=>?_⟩;have:=g3 v hv;simp only[wW,bG,vN,dn]at this;omega
 exact⟨hl,λi hi=>by have:=(hs i hi).2.1;omega,λi hi=>by have:=(hs i hi).1;omega,λi hi=>by have:=(hs i hi).2.2.1;omega,λi hi v hv=>by have:=(hs i hi).2.2.2 v hv;omega⟩
end
end Go.Ev.X
