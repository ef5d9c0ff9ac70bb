/- A part of the proof. -/
import Derived.Test.YtapmaobjhilnfaaGreatDoorH
import Derived.Test.YtapmaobjhilnfaaGreatDoorG
import Derived.Test.YtapmaobjhilnfaaGreatDoorD
set_option linter.all false
namespace Go.Ev.X
open Go Go.Ev
attribute [local irreducible] WC WO WD SO τ
section
variable {C:Nat->Option bN}{h:Hf}{n:K}{Q:V->Hf->K->Prop}
theorem aiC(hC:Cd C){s:S}(hQ:Q (.b (isNeg s)) h n):τ C (.f 292 [] []) [st s,st [45]] h n Q:=by
 refine τ.go hC.f292 U ?_;refine ζ<|γ U<|ε ?_;cases s with
 | nil=>
  refine ζ<|γ U<|cH U<|γ U<|cH U<|fL U U<|γ U<|μ U (by simp)<|μ U (by simp)<|μ U (by simp)<|μ U (by simp)<|μ U (by simp)<|μ U (by simp)<|aK U (by simp) U<|γ U<|ε (Θ ⟨_,rfl,hQ⟩)
 | cons c l=>
  refine ζ<|γ U<|cH U<|γ U<|cH U<|fL U U<|γ U<|κ U (by simp<;>omega)<|γ U<|κ U (by simp<;>omega)<|γ U<|κ U (by simp<;>omega)<|cH U<|κ U (by simp<;>omega)<|Al U U U (by simp) (by simp)<|κ U (by simp<;>omega)<|γ U<|κ U (by simp<;>omega)<|en U U<|aS U (by simp<;>omega) U<|γ U<|ε (Θ ⟨_,rfl,?_⟩);have e:decide ((List.drop 0 (c::l)).take (([45]:S).length - 0)=[45])=isNeg (c::l):=by
   show decide ([c]=[45])=decide (c.toNat=45);have:([c]=[(45:UInt8)])↔c.toNat=45:=by
    constructor
    ·intro h;injection h with h;rw[h];rfl
    ·intro h;congr 1;exact UInt8.toNat_inj.1 h
   by_cases h:c.toNat=45
   ·rw[rj (this.2 h),rj h]
   ·rw[gj (λe=>h (this.1 e)),gj h]
  rw[e];exact hQ
theorem aiD(hC:Cd C){s:S}(hQ:Q (.u [st (body s),.b (isNeg s)]) h n):τ C (.f 261 [] []) [st s,st [45]] h n Q:=by
 refine τ.go hC.f261 U ?_;refine ζ<|γ U<|γ U<|ε ?_;refine ξ<|ζ<|γ U<|γ U<|ak U U<|aiC hC<|di U<|ε ?_;cases s with
 | nil=>
  refine an U U ?_;refine ζ<|γ U<|γ U<|γ U<|ε (Θ ⟨_,rfl,hQ⟩)
 | cons c l=>
  by_cases hc:c.toNat=45
  ·have hb:body (c::l)=l:=by simp[body,hc]
   have hn:isNeg (c::l)=true:=by simp[isNeg,hc]
   rw[hb,hn]at hQ;refine ay U (by rw[hn];rfl)<|ae ?_;refine ζ<|γ U<|γ U<|cH U<|Al U U U (by simp) (by simp)<|γ U<|γ U<|ε (Θ ⟨_,rfl,?_⟩);have:((c::l).drop ([45]:S).length).take ((c::l).length - ([45]:S).length)=l:=by simp
   rw[this];exact hQ
  ·have hb:body (c::l)=c::l:=by simp[body,hc]
   have hn:isNeg (c::l)=false:=by simp[isNeg,hc]
   rw[hb,hn]at hQ;refine an U (by rw[hn];rfl) ?_;refine ζ<|γ U<|γ U<|γ U<|ε (Θ ⟨_,rfl,hQ⟩)
theorem Wy(hC:Cd C){s:S}(hQ:Q (.u [st (body s),.b (isNeg s)]) h n):τ C (.f 213 [] []) [st s,st [45]] h n Q:=by refine τ.go hC.f213 U ?_;refine ζ<|γ U<|γ U<|ε ?_;refine ζ<|γ U<|γ U<|ak U U<|aiD hC<|dG U U<|dG U U<|γ U<|γ U<|ε (Θ ⟨_,rfl,hQ⟩)
theorem aiE{s:S}(hl:s.length<1000000){b:K}{h0:Hf}{n0:K}(gW:n0.num<=b.num){Q1:Ex->Env->Hf->K->Prop}(JD:s.all gL=false->∀E h' n',Ext h0 n0 h' n'->Q1 .ret ((k2,.b false)::E) h' n')(GC:s.all gL=true->∀E h' n',Ext h0 n0 h' n'->dK [(k0,st s)] E->Q1 .normal E h' n'):
 ∀(m i:Nat) (h:Hf) (n:K),s.length - i<=m->i<=s.length->h b=some (.it s.length (bp s) i)->Ext h0 n0 h n->(∀j (hj:j<s.length),j<i->gL s[j]=true)->WC C R3 [(k0,st s),(k6,.p b 0)] h n (blk 0 Q1):=by
 intro m
 induction m with
 | zero=>
  intro i h n hm hi hb e hU;refine aJ ?_;refine ζ<|Cj U (hb) (by omega)<|dG U U<|ε ?_;refine ξ<|ay U U<|bM (GC (sF.2 λc hc=>?_) _ _ _ e ⟨rfl,trivial⟩);obtain⟨j,hj,rfl⟩:=uu hc;exact hU j hj (by omega)
 | succ m ih=>
  intro i h n hm hi hb e hU;refine aJ ?_;by_cases ω:i<s.length
  ·refine ζ<|HQ U (hb) (by omega) <| λr w h1 R a1 b1=>dG U U<|ε ?_;refine ξ<|an U U<|ae<|aC ?_;have e1:=e.aj b1 gW;have bad:gL s[i]=false->s.all gL=false:=λh=>by
    cases ha:s.all gL with
    | false=>rfl
    | true=>rw[sF.1 ha _ (fW ω)]at h;cases h
   have nX:128<=s[i].toNat->gL s[i]=false:=λh=>by simp only[gL,Bool.and_eq_false_iff,cV];omega
   refine ζ<|dG U U<|γ U<|ε ?_;by_cases auw:r<48
   ·refine ζ<|γ U<|aO U U<|γ U<|μ U (by simp<;>omega)<|μ U (by simp<;>omega)<|aS U (by simp<;>omega) U<|ε ?_;refine an U (by simp<;>omega) ?_;refine ζ<|γ U<|ε (Θ (JD (bad ?_) _ _ _ e1));by_cases hb:s[i].toNat<128
    ·have:=(R.lo hb).1;simp only[gL,Bool.and_eq_false_iff,cV];omega
    ·exact nX (by omega)
   ·refine ζ<|γ U<|aO U U<|γ U<|κ U (by simp<;>omega)<|γ U<|κ U (by simp<;>omega)<|cS U U<|aK U (by simp<;>omega) U<|ε ?_;by_cases auy:57<r
    ·refine an U (by simp<;>omega) ?_;refine ζ<|γ U<|ε (Θ (JD (bad ?_) _ _ _ e1));by_cases hb:s[i].toNat<128
     ·have:=(R.lo hb).1;simp only[gL,Bool.and_eq_false_iff,cV];omega
     ·exact nX (by omega)
    ·refine ay U (by simp<;>omega)<|ae ?_;have hb:s[i].toNat<128:=by
      by_cases hb:s[i].toNat<128
      ·exact hb
      ·have:=(R.hi (by omega)).1;omega
     obtain⟨er,ew⟩:=R.lo hb;refine Γ (ih (i+w) h1 n (by omega) R.le a1 e1 (λj hj Ji=>?_)) ⟨rfl,rfl,trivial⟩;by_cases y9:j<i
     ·exact hU j hj y9
     ·have:j=i:=by omega
      subst this;simp only[gL,bh,bA];omega
  ·refine ζ<|Cj U (hb) (by omega)<|dG U U<|ε ?_;refine ξ<|ay U U<|bM (GC (sF.2 λc hc=>?_) _ _ _ e ⟨rfl,trivial⟩);obtain⟨j,hj,rfl⟩:=uu hc;exact hU j hj (by omega)
theorem IG(hC:Cd C){s:S}(hl:s.length<1000000)(hQ:∀h' n',Ext h n h' n'->Q (.b (!decide (s.length=0)&&s.all gL)) h' n'):τ C (.f 214 [] []) [st s] h n Q:=by
 refine τ.go hC.f214 U ?_;refine ζ<|γ U<|ε ?_;refine ξ<|ζ<|γ U<|HP U <| λh1 n1 dS a1 e1=>ε ?_;refine aC<|Γ (aiE hl (b:=n) (h0:=h) (n0:=n) (χ _) (λha E h' n' e=>⟨_,rfl,by have:=hQ h' n' e;rw[ha,Bool.and_false]at this;exact this⟩) (λha E h' n' e hs=>dQ hs ?_) _ 0 h1 n1 (χ _) (by omega) a1 e1 (λj hj h=>by omega)) ⟨rfl,rfl,trivial⟩;refine ζ<|γ U<|iP (b:=[]) U U<|γ U<|ε (Θ ⟨_,rfl,?_⟩);have:=hQ h' n' e;rw[ha,Bool.and_true]at this;have e2:decide (s=[])=decide (s.length=0):=by cases s<;>simp
 rw[e2];exact this
theorem aiF{t:S}(h:0<t.length):pV t=t[0].toNat:=by
 cases t with
 | nil=>simp at h
 | cons=>rfl
theorem FD(hC:Cd C){s:S}(hl:s.length<1000000)(hQ:∀h' n',Ext h n h' n'->Q (.i .i64 (gu s)) h' n'):τ C (.f 150 [] []) [st s] h n Q:=by
 refine τ.go hC.f150 U ?_;refine ζ<|γ U<|ε ?_;refine ζ<|γ U<|ak U U<|Wy hC<|γ U<|dG U U<|dG U U<|γ U<|γ U<|ε ?_;have hK:=Fb s;have key:jl s=((!decide ((body s).length=0)&&(body s).all gL)&&!(decide (pV (body s)=48)&&(isNeg s||decide (1<(body s).length)))):=by
  unfold jl;have JE:decide (s=[45,48])=(isNeg s&&(decide ((body s).length=1)&&decide (pV (body s)=48))):=by
   match s with
   | []=>rfl
   | [c]=>simp[isNeg,body];intro h;simp[h]
   | [c,d]=>
    by_cases hc:c.toNat=45
    ·have:c=45:=UInt8.toNat_inj.1 hc;subst this;have hd:(d=48)↔d.toNat=48:=⟨λh=>by rw[h];rfl,λh=>UInt8.toNat_inj.1 h⟩;simp[isNeg,body,pV,hd]
    ·have:c≠45:=λe=>hc (by rw[e];rfl);simp[isNeg,hc,this]
   | c::d::e::l=>
    have:1<(body (c::d::e::l)).length:=by simp only[body];split<;>simp
    have h2:¬ (body (c::d::e::l)).length=1:=by omega
    simp[h2]
  rw[JE];cases hs:body s with
  | nil=>simp
  | cons x l=>
   by_cases h1:x.toNat=48<;>cases isNeg s<;>by_cases h3:l.length=0<;>cases ((x::l).all gL)<;>simp[pV,h1,h3]<;>first | omega | skip
 have aR:gu s=if (!jl s)=true then 1 else if 120<(body s).length then 4 else 0:=by unfold gu;cases jl s<;>rfl
 have zq:jl s=false->∀h' n',Ext h n h' n'->Q (.i .i64 1) h' n':=λhf h' n' e=>by have:=hQ h' n' e;rw[aR,hf]at this;exact this
 have FE:jl s=true->∀h' n',Ext h n h' n'->Q (.i .i64 (if decide ((120:Int)<((body s).length:Nat)) then 4 else 0)) h' n':=λhf h' n' e=>by
  have:=hQ h' n' e;rw[aR,hf]at this;have e3:((120:Int)<((body s).length:Nat))↔120<(body s).length:=by omega
  simp only[bA,e3];exact this
 by_cases hd:(!decide ((body s).length=0)&&(body s).all gL)=true
 ·have h0:(body s).length≠0:=by simp at hd;exact λe=>hd.1 (List.eq_nil_of_length_eq_zero e)
  have YW:0<(body s).length:=by omega
  have hh:pV (body s)=(body s)[0].toNat:=aiF _;rw[hd,wz]at key;by_cases Mt:(body s)[0].toNat=48
  ·rw[hh,rj Mt,wz]at key;by_cases hn:isNeg s=true
   ·rw[hn,Bool.true_or]at key;refine ξ<|ζ<|γ U<|ak U U<|IG hC (by omega) <| λh1 n1 x1=>di U<|γ U<|κ U (congrArg not hd)<|γ U<|κ U (congrArg not hd)<|lZ U U (YW)<|κ U (congrArg not hd)<|bm U U<|κ U (congrArg not hd)<|γ U<|κ U (by simp<;>omega)<|γ U<|κ U (by simp<;>omega)<|γ U<|μ U (hn)<|μ U (hn)<|μ U (hn)<|κ U (by simp<;>omega)<|aS U (hn) U<|κ U (congrArg not hd)<|aS U (by simp<;>omega) U<|aK U (congrArg not hd) U<|ε ?_;refine an U U ?_;refine ζ<|γ U<|ε (Θ ⟨_,rfl,zq key _ _ x1⟩)
   ·simp only[BC]at hn;rw[hn,Bool.false_or]at key;refine ξ<|ζ<|γ U<|ak U U<|IG hC (by omega) <| λh1 n1 x1=>di U<|γ U<|κ U (congrArg not hd)<|γ U<|κ U (congrArg not hd)<|lZ U U (YW)<|κ U (congrArg not hd)<|bm U U<|κ U (congrArg not hd)<|γ U<|κ U (by simp<;>omega)<|γ U<|κ U (by simp<;>omega)<|γ U<|κ U (hn)<|γ U<|κ U (hn)<|cH U<|κ U (hn)<|cS U U<|κ U (by simp<;>omega)<|aK U (hn) U<|κ U (congrArg not hd)<|aS U (by simp<;>omega) U<|aK U (congrArg not hd) U<|ε ?_;by_cases kW:1<(body s).length
    ·rw[rj kW]at key;refine an U (by simp<;>omega) ?_;refine ζ<|γ U<|ε (Θ ⟨_,rfl,zq key _ _ x1⟩)
    ·rw[gj kW]at key;refine ay U (by simp<;>omega)<|ae ?_;refine ζ<|γ U<|cH U<|cS U U<|ak U U<|sx hC.f215<|γ U<|ε (Θ ⟨_,rfl,FE key _ _ x1⟩)
  ·rw[hh,gj Mt,wx]at key;refine ξ<|ζ<|γ U<|ak U U<|IG hC (by omega) <| λh1 n1 x1=>di U<|γ U<|κ U (congrArg not hd)<|γ U<|κ U (congrArg not hd)<|lZ U U (YW)<|κ U (congrArg not hd)<|bm U U<|κ U (congrArg not hd)<|γ U<|μ U (by simp<;>omega)<|μ U (by simp<;>omega)<|eI U<|eI U<|eI U<|μ U (by simp<;>omega)<|κ U (congrArg not hd)<|aK U (by simp<;>omega) U<|aK U (congrArg not hd) U<|ε ?_;refine ay U (by simp<;>omega)<|ae ?_;refine ζ<|γ U<|cH U<|cS U U<|ak U U<|sx hC.f215<|γ U<|ε (Θ ⟨_,rfl,FE key _ _ x1⟩)
 ·simp only[BC]at hd;rw[hd,wx]at key;refine ξ<|ζ<|γ U<|ak U U<|IG hC (by omega) <| λh1 n1 x1=>di U<|γ U<|μ U (congrArg not hd)<|μ U (congrArg not hd)<|μ U (congrArg not hd)<|μ U (congrArg not hd)<|eI U<|eI U<|eI U<|eI U<|eI U<|eI U<|μ U (congrArg not hd)<|aS U (congrArg not hd) U<|ε ?_;refine an U U ?_;refine ζ<|γ U<|ε (Θ ⟨_,rfl,zq key _ _ x1⟩)
theorem No{s:S}:ic s=decide (0<=bI 47 s):=by
 have:ic s=true↔0<=bI 47 s:=by rw[LD];simp[ic]
 cases h:ic s with
 | true=>exact(rj (this.1 h)).symm
 | false=>exact(gj λe=>by rw[this.2 e]at h;cases h).symm
theorem Wz(hC:Cd C){s:S}(hQ:Q (.i .i64 (bI 47 s)) h n):τ C (.f 279 [] []) [st s,st [47]] h n Q:=by
 refine τ.go hC.f279 U ?_;refine ζ<|γ U<|ε ?_;refine ζ<|γ U<|cH U<|γ U<|ε ?_;refine ξ<|aC ?_;refine ζ<|γ U<|bm U U<|γ U<|κ U (rfl)<|γ U<|κ U (rfl)<|γ U<|κ U (rfl)<|en U U<|aK U (rfl) U<|γ U<|ε ?_;by_cases h1:s=[47]
 ·refine an U (by rw[h1];rfl) ?_;subst h1;refine ζ<|γ U<|ε (Θ ⟨_,rfl,hQ⟩)
 ·refine ay U (gj (Ne.symm h1)) ?_;refine ζ<|γ U<|bm U U<|γ U<|ε ?_;refine an U U ?_;refine ζ<|γ U<|γ U<|lZ U U (by simp)<|ak U U<|Wv hC (c:=47) (by omega)<|γ U<|ε (Θ ⟨_,rfl,hQ⟩)
theorem aiG(hC:Cd C){s:S}(hQ:Q (.i .i64 (bI 47 s)) h n):τ C (.f 262 [] []) [st s,st [47]] h n Q:=by refine τ.go hC.f262 U ?_;refine ζ<|γ U<|ε ?_;refine ζ<|γ U<|γ U<|ak U U<|Wz hC<|γ U<|ε (Θ ⟨_,rfl,hQ⟩)
theorem aiH(hC:Cd C){s:S}(hQ:Q (.b (ic s)) h n):τ C (.f 216 [] []) [st s,st [47]] h n Q:=by refine τ.go hC.f216 U ?_;refine ζ<|γ U<|ε ?_;refine ζ<|γ U<|γ U<|ak U U<|aiG hC<|fL U U<|γ U<|ε (Θ ⟨_,rfl,by rw[No]at hQ;exact hQ⟩)
def qI(s:S):V:=match cutAt s with
 | some (p,q)=>.u [st p,st q,.b true]
 | none=>.u [st s,st [],.b false]
theorem WA(hC:Cd C){s:S}(hl:s.length<1000000)(hQ:Q (qI s) h n):τ C (.f 246 [] []) [st s,st [47]] h n Q:=by
 refine τ.go hC.f246 U ?_;refine ζ<|γ U<|γ U<|γ U<|ε ?_;refine ξ<|ζ<|γ U<|γ U<|ak U U<|Wz hC<|γ U<|ε ?_;by_cases hb:0<=bI 47 s
 ·obtain⟨j,hj,ω,xe,hU⟩:=ac9 hb;have lE:cutAt s=some (s.take j,s.drop (j+1)):=Mr ω (by
   cases hh:ic (s.take j) with
   | false=>rfl
   | true=>
    obtain⟨x,hx,e⟩:=LD.1 (of_decide_eq_true (No (s:=s.take j)▸hh));obtain⟨k,hk,rfl⟩:=uu hx;rw[List.getElem_take]at e;simp only[ri]at hk;exact absurd e (hU k (by omega) (by omega))) xe
  unfold qI at hQ;rw[lE]at hQ;rw[hj];refine ζ<|γ U<|fL U U<|ε ?_;refine an U (by simp) ?_;have e1:List.take (j - 0) (List.drop 0 s)=s.take j:=by simp
  have e2:List.take (s.length - (j+1)) (List.drop (j+1) s)=s.drop (j+1):=pZ (by simp);refine dh<|ao U<|ao U<|EA U U U (by omega) (by omega)<|ao U<|ao U<|ao U<|acu U<|ED U U ((show((j:Nat):Int)+(([47]:S).length:Nat)=((j+1:Nat):Int) by simp)) ⟨by omega,by omega⟩<|EA U U U (by omega) (by omega)<|ao U<|ao U<|ao U<|cG (by simp[AG,gP,jW,Nat.testBit]) ?_;refine Θ ⟨_,rfl,?_⟩;rw[e1,e2];exact hQ
 ·have lE:cutAt s=none:=Mq (by rw[No];simpa using hb);unfold qI at hQ;rw[lE]at hQ;refine ζ<|γ U<|fL U U<|ε ?_;refine ay U (by simpa using hb)<|ae ?_;refine ζ<|γ U<|γ U<|γ U<|γ U<|ε (Θ ⟨_,rfl,hQ⟩)
theorem WB(hC:Cd C){s:S}(hl:s.length<1000000)(hQ:Q (qI s) h n):τ C (.f 191 [] []) [st s,st [47]] h n Q:=by
 refine τ.go hC.f191 U ?_;refine ζ<|γ U<|γ U<|γ U<|ε ?_;unfold qI at hQ;cases hc:cutAt s with
 | none=>
  rw[hc]at hQ;have hv:qI s=.u [st s,st [],.b false]:=by unfold qI;rw[hc]
  have key:∀{Q:V->Hf->K->Prop},Q (.u [st s,st [],.b false]) h n->τ C (.f 246 [] []) [st s,st [47]] h n Q:=λhQ=>WA hC hl (by rw[hv];exact hQ);refine ζ<|γ U<|γ U<|ak U U<|key<|dG U U<|dG U U<|dG U U<|γ U<|γ U<|γ U<|ε (Θ ⟨_,rfl,hQ⟩)
 | some pq=>
  obtain⟨p,q⟩:=pq;rw[hc]at hQ;have hv:qI s=.u [st p,st q,.b true]:=by unfold qI;rw[hc]
  have key:∀{Q:V->Hf->K->Prop},Q (.u [st p,st q,.b true]) h n->τ C (.f 246 [] []) [st s,st [47]] h n Q:=λhQ=>WA hC hl (by rw[hv];exact hQ);refine ζ<|γ U<|γ U<|ak U U<|key<|dG U U<|dG U U<|dG U U<|γ U<|γ U<|γ U<|ε (Θ ⟨_,rfl,hQ⟩)
end
section
variable {C:Nat->Option bN}{h:Hf}{n:K}{Q:V->Hf->K->Prop}
theorem fh{v:V}(h:v.one=true):bE [v]=true:=by simp only[bE,h];rfl
theorem FF(hC:Cd C){v:V}{l:List Nat}(hv:aQ h n .u32 v l)(hlen:l.length<1000000)(hQ:∀h' n',Ext h n h' n'->Q (.b (decide (l.length=0))) h' n'):τ C (.f 219 [] []) [.a [v]] h n Q:=by refine τ.go hC.f219 U ?_;refine ζ<|et U (rfl) (fh hv.one) <| λh1 n1 dS a1 e1=>γ U<|ε ?_;refine ζ<|ρ U<|ν U (dL a1 rfl _)<|az U (hv.ext e1)<|bm U U<|γ U<|ε (Θ ⟨_,rfl,?_⟩);have:=hQ _ _ e1;rw[show decide (((l.length:Nat):Int)=0)=decide (l.length=0) from by by_cases h:l.length=0<;>simp[h]];exact this
theorem aiI(hC:Cd C){v:V}{l:List Nat}(hv:aQ h n .u32 v l)(hlen:l.length<1000000)(hQ:∀h' n',Ext h n h' n'->Q (.b (decide (l=[1]))) h' n'):τ C (.f 221 [] []) [.a [v]] h n Q:=by
 refine τ.go hC.f221 U ?_;refine ζ<|et U (rfl) (fh hv.one) <| λh1 n1 dS a1 e1=>γ U<|ε ?_;have mT:=hv.ext e1;by_cases h1:l.length=1
 ·have h0:0<l.length:=by omega
  refine ζ<|ρ U<|ν U (dL a1 rfl _)<|az U (mT)<|bm U U<|γ U<|κ U (by simp[h1])<|ρ U<|κ U (by simp[h1])<|ν U (dL a1 rfl _)<|κ U (by simp[h1])<|bj U U (mT) (h0)<|κ U (by simp[h1])<|ν U (mT.get h0 _)<|κ U (by simp[h1])<|bm U U<|aS U (by simp[h1]) U<|γ U<|ε (Θ ⟨_,rfl,?_⟩);have:=hQ _ _ e1;rw[show decide (((l[0]:Nat):Int)=1)=decide (l=[1]) from by
   match l,h1 with
   | [x],_=>by_cases h:x=1<;>simp[h];omega]
  exact this
 ·refine ζ<|ρ U<|ν U (dL a1 rfl _)<|az U (mT)<|bm U U<|γ U<|μ U (by simp<;>omega)<|μ U (by simp<;>omega)<|μ U (by simp<;>omega)<|μ U (by simp<;>omega)<|μ U (by simp<;>omega)<|aK U (by simp<;>omega) U<|γ U<|ε (Θ ⟨_,rfl,?_⟩);have:=hQ _ _ e1;rw[show decide (l=[1])=false from gj λe=>h1 (by rw[e];rfl)]at this;exact this
theorem WE(hC:Cd C){a b:Nat}(hQ:Q (.i .i64 (gr a b)) h n):τ C (.f 314 [] []) [.i .i64 (a:Nat),.i .i64 (b:Nat)] h n Q:=by
 refine τ.go hC.f314 U ?_;refine ζ<|γ U<|ε ?_;refine ξ<|ζ<|γ U<|γ U<|aO U U<|ε ?_;unfold gr at hQ;by_cases h1:a<b
 ·rw[au h1]at hQ;refine an U (by simp<;>omega) ?_;refine ζ<|γ U<|ε (Θ ⟨_,rfl,hQ⟩)
 ·rw[Ξ h1]at hQ;refine ay U (by simp<;>omega)<|ae ?_;refine ξ<|ζ<|γ U<|γ U<|cS U U<|ε ?_;by_cases h2:b<a
  ·rw[au h2]at hQ;refine an U (by simp<;>omega) ?_;refine ζ<|γ U<|ε (Θ ⟨_,rfl,hQ⟩)
  ·rw[Ξ h2]at hQ;refine ay U (by simp<;>omega)<|ae ?_;refine ζ<|γ U<|ε (Θ ⟨_,rfl,hQ⟩)
theorem Np(hC:Cd C){v:V}{l:List Nat}{b:K}(hv:aQ h n .u32 v l)(hlen:l.length<1000000)(hb:Cl h n b [.i .u32 0] 316)(hQ:Q (.b (decide (0<l.length/\l.getD (l.length - 1) 1=0))) h n):τ C (.f 294 [] [.p b 0]) [v] h n Q:=by
 refine τ.go hC.f294 U ?_;refine ζ<|γ U<|ε ?_;by_cases h1:0<l.length
 ·have ω:l.length - 1<l.length:=by omega
  have g1:=hv.get ω 1;have g2:aX h false 1 (.p b 0)=some (.i .u32 0):=hb.ld U 1;refine dh<|ao U<|Eo U (hv)<|wQ U U<|ao U<|bV U (by simp<;>omega)<|ao U<|bV U (by simp<;>omega)<|ao U<|bV U (by simp<;>omega)<|Eo U (hv)<|bV U (by simp<;>omega)<|Ck U U ((show((l.length:Nat):Int) - 1=((l.length - 1:Nat):Int) by omega)) ⟨by omega,by omega⟩<|bV U (by simp<;>omega)<|cX U U (hv) (ω)<|bV U (by simp<;>omega)<|aD U (g1) U (by simp[cT,hJ,dD,jG])<|bV U (by simp<;>omega)<|aD U (g2) U (by simp[cT,hJ,dD,jG])<|bV U (by simp<;>omega)<|Aj U U<|yp U (by simp<;>omega) U<|ao U<|cG (by simp[AG,gP,jW,Nat.testBit]) ?_;refine Θ ⟨_,rfl,?_⟩;have e:l.getD (l.length - 1) 1=l[l.length - 1]:=by rw[fj,fO ω];rfl
  rw[e]at hQ;rw[show decide (((l[l.length - 1]:Nat):Int)=0)=decide (0<l.length/\l[l.length - 1]=0) from by by_cases h:l[l.length - 1]=0<;>simp[h]<;>omega]
  exact hQ
 ·have e:decide (0<l.length/\l.getD (l.length - 1) 1=0)=false:=gj λe=>h1 e.1;rw[e]at hQ;refine dh<|ao U<|Eo U (hv)<|wQ U U<|ao U<|cW U (gj (show ¬ (0:Int)<((l.length:Nat):Int) by omega))<|cW U (gj (show ¬ (0:Int)<((l.length:Nat):Int) by omega))<|cW U (gj (show ¬ (0:Int)<((l.length:Nat):Int) by omega))<|cW U (gj (show ¬ (0:Int)<((l.length:Nat):Int) by omega))<|cW U (gj (show ¬ (0:Int)<((l.length:Nat):Int) by omega))<|cW U (gj (show ¬ (0:Int)<((l.length:Nat):Int) by omega))<|cW U (gj (show ¬ (0:Int)<((l.length:Nat):Int) by omega))<|cW U (gj (show ¬ (0:Int)<((l.length:Nat):Int) by omega))<|vK U (gj (show ¬ (0:Int)<((l.length:Nat):Int) by omega)) U<|ao U<|cG (by simp[AG,gP,jW,Nat.testBit]) ?_;exact Θ ⟨_,rfl,hQ⟩
theorem aiJ(hC:Cd C){v0:V}{l:List Nat}{b:K}(hlen:l.length<1000000){Q1:Ex->Env->Hf->K->Prop}(hb:Cl h n b [.i .u32 0] 316){n0:K}(Gy:n0.num<=n.num)
 (hQ:∀v' E',aQ h n0 .u32 v' (dd l)->v'.blk=v0.blk->(v0=.ns->v'=.ns)->dK [(k0,v')] E'->Q1 .normal E' h n):
 ∀(m:Nat) (v:V),m<=l.length->aQ h n0 .u32 v (l.take m)->v.blk=v0.blk->(v0=.ns->v=.ns)->dd l=dd (l.take m)->WC C R6 [(k0,v),(k4,.f 294 [] [.p b 0])] h n (blk 0 Q1):=by
 intro m
 induction m with
 | zero=>
  intro v hm hv OO OP hs;have hc:∀{Q:V->Hf->K->Prop},Q (.b false) h n->τ C (.f 294 [] [.p b 0]) [v] h n Q:=λhQ=>Np hC (hv.up Gy) (by simp<;>omega) hb (by simpa using hQ);refine aJ ?_;refine ξ<|ζ<|γ U<|γ U<|ak U U<|hc<|ε ?_;refine ay U U<|bM (hQ v _ (by rw[hs];simpa[dd]using hv) OO OP ⟨rfl,trivial⟩)
 | succ m ih=>
  intro v hm hv OO OP hs;have ω:m<l.length:=by omega
  have vP:(l.take (m+1)).length=m+1:=by simp<;>omega
  have hgd:(l.take (m+1)).getD ((l.take (m+1)).length - 1) 1=l[m]:=by rw[vP,Nat.add_sub_cancel,fj,fO (by rw[vP];omega),List.getElem_take];rfl
  refine aJ ?_;by_cases h0:l[m]=0
  ·have hc:∀{Q:V->Hf->K->Prop},Q (.b true) h n->τ C (.f 294 [] [.p b 0]) [v] h n Q:=λhQ=>Np hC (hv.up Gy) (by omega) hb (by rw[hgd,vP];simpa[h0]using hQ);refine ξ<|ζ<|γ U<|γ U<|ak U U<|hc<|ε ?_;refine an U U<|ae ?_;refine aC<|aL<|γ U<|γ U<|az U (hv)<|mO U U ((show(((l.take (m+1)).length:Nat):Int) - 1=((m:Nat):Int) by omega)) ⟨by omega,by omega⟩<|K3 U (hv) U U (by omega) ((by omega)) <| λv2 i2 l2=>γ U<|ε ?_;refine Γ (ih v2 (by omega) ?_ (by rw[l2.2.1,OO]) (λe=>l2.2.2 (OP e)) (by rw[hs,VS ω h0])) ⟨rfl,rfl,trivial⟩;have:=aQ.sub i2 (by omega);rw[jr,qb,List.take_take,xR (by omega)]at this;exact this
  ·have hc:∀{Q:V->Hf->K->Prop},Q (.b false) h n->τ C (.f 294 [] [.p b 0]) [v] h n Q:=λhQ=>Np hC (hv.up Gy) (by omega) hb (by rw[hgd,vP];simpa[h0]using hQ);refine ξ<|ζ<|γ U<|γ U<|ak U U<|hc<|ε ?_;refine ay U U<|bM (hQ v _ (by rw[hs,VT ω h0];exact hv) OO OP ⟨rfl,trivial⟩)
theorem aiL(hC:Cd C){v:V}{l:List Nat}{n0:K}(hv:aQ h n0 .u32 v l)(hlen:l.length<1000000)(hQ:∀v',aQ h n0 .u32 v' l->v'.blk=v.blk->(v=.ns->v'=.ns)->Q v' h n):τ C (.f 295 [] []) [v] h n Q:=by refine τ.go hC.f295 U ?_;refine ζ<|γ U<|ε ?_;refine ζ<|γ U<|γ U<|az U (hv)<|γ U<|az U (hv)<|acI U (hv) U U <| λv2 i2 l2=>γ U<|ε (Θ ⟨_,rfl,hQ v2 i2 l2.2.1 l2.2.2⟩)
theorem yN(hC:Cd C){v:V}{l:List Nat}{n0:K}(Gy:n0.num<=n.num)(hv:aQ h n0 .u32 v l)(hlen:l.length<1000000)(hQ:∀v' h' n',Ext h n h' n'->aQ h' n0 .u32 v' (dd l)->v'.blk=v.blk->(v=.ns->v'=.ns)->Q v' h' n'):τ C (.f 265 [] []) [v] h n Q:=by refine τ.go hC.f265 U ?_;refine ζ<|γ U<|ε ?_;refine ζ<|du <| λh1 n1 dS a1 e1=>ε ?_;have mT:aQ h1 n0 .u32 v l:=hv.at_ (e1.trans' (χ _) (λ_ _=>rfl) |> λx=>⟨by have:=x.1;omega,λk hk=>e1.2 k (by omega)⟩);refine ζ<|Am U U<|γ U<|ε ?_;refine ξ<|aC<|Γ (aiJ hC hlen (b:=n) ⟨by omega,a1⟩ (n0:=n0) (by omega) (λv' E' i hb hn hE=>dQ hE ?_) l.length v (χ _) (by rw[gM];exact mT) U id (by rw[gM])) ⟨rfl,rfl,trivial⟩;have wM:=AM l;refine ζ<|γ U<|ak U U<|aiL hC i (by omega) <| λv2 i2 fM iL=>γ U<|ε (Θ ⟨_,rfl,hQ v2 _ _ e1 i2 (by rw[fM,hb]) (λe=>iL (hn e))⟩)
theorem CH(hC:Cd C){v:V}{l:List Nat}{i:Nat}(hv:aQ h n .u32 v l)(hs:Sm 1000000000 l)(hlen:l.length<1000000)(hQ:∀h' n',Ext h n h' n'->Q (.i .u64 (l.getD i 0:Nat)) h' n'):τ C (.f 298 [] []) [.a [v],.i .i64 (i:Nat)] h n Q:=by
 refine τ.go hC.f298 U ?_;refine ζ<|et U (rfl) (fh hv.one) <| λh1 n1 dS a1 e1=>γ U<|ε ?_;have mT:=hv.ext e1;refine ξ<|ζ<|γ U<|ρ U<|ν U (dL a1 rfl _)<|az U (mT)<|aO U U<|ε ?_;by_cases hi:i<l.length
 ·refine an U (by simp<;>omega) ?_;have ω:=hs.get hi;have e:=jm hi;rw[e]at hQ;refine ζ<|ρ U<|ν U (dL a1 rfl _)<|γ U<|bj U U (mT) (hi)<|ν U (mT.get hi _)<|pB U ⟨by omega,by omega⟩<|γ U<|ε (Θ ⟨_,rfl,hQ _ _ e1⟩)
 ·refine ay U (by simp<;>omega)<|ae ?_;have e:l.getD i 0=0:=by rw[fj,xI (by omega)];rfl
  rw[e]at hQ;refine ζ<|γ U<|ε (Θ ⟨_,rfl,hQ _ _ e1⟩)
end
section
variable {C:Nat->Option bN}{h:Hf}{n:K}{Q:V->Hf->K->Prop}
abbrev Bg:Nat:=1000000000
theorem aQ.toI{k:IntKind}{v:V}{l:List Nat}(a:aQ h n k v l):eL h n k v (l.map λ(x:Nat)=>(x:Int)):=by have:φ h n 1 v l.length (nC k l):=a;rw[Rx]at this;unfold eL;rw[wy];exact this
theorem Nq(hC:Cd C){t:V}{ik:IntKind}{l:List Nat}(ht:aQ h n ik t l)(hlen:l.length<1000000)
 (hQ:∀b e h' n',Ext h n h' n'->h' b=some (.c [t] e 0)->b.num<n'.num->n.num<=b.num->Iter C (.f 316 [] [.p b 0]) (λh n=>b.num<n.num/\h b=some (.c [t] e 0)/\aQ h n ik t l) (xb (λj=>.i ik (l.getD j 0:Nat)) l.length)->Q (.f 316 [] [.p b 0]) h' n'):τ C (.f 297 [] []) [t] h n Q:=by
 refine afu hC ht.toI (by simpa using hlen) (λj=>.i ik (l.getD j 0:Nat)) (λi hi=>by rw[wy]at hi;simp[fj,hi]) ?_;intro b e h' n' e1 a1 h1 h2 it;refine hQ b e h' n' e1 a1 h1 h2 ?_;have:(λ(h:Hf) (n:K)=>b.num<n.num/\h b=some (.c [t] e 0)/\aQ h n ik t l) = λh n=>b.num<n.num/\h b=some (.c [t] e 0)/\eL h n ik t (l.map λ(x:Nat)=>(x:Int)):=by funext h n;unfold aQ eL;rw[wy,Rx]
 rw[this];rw[wy]at it;exact it
theorem WG(hC:Cd C){va vb:V}{a b:List Nat}(fG:a.length<1000)(gp:b.length<1000)(ha:eA Bg a)(hb:eA Bg b)(ia:aQ h n .u32 va a)(ib:aQ h n .u32 vb b)(hQ:∀h' n',Ext h n h' n'->Q (.i .i64 (gr (val Bg a) (val Bg b))) h' n'):τ C (.f 286 [] []) [.a [va],.a [vb]] h n Q:=by
 refine τ.go hC.f286 U ?_;refine ζ<|et U (rfl) (fh ia.one) <| λh1 n1 dS a1 e1=>et U (rfl) (fh ib.one) <| λh2 n2 iL a2 e2=>du <| λh3 n3 og a3 e3=>ε ?_;have x3:=(e1.trans e2).trans e3;have c2:Cl h3 n3 n [va] 271:=Cl.ext (Cl.ext ⟨by omega,a1⟩ e2) e3;have c3:Cl h3 n3 n1 [vb] 271:=Cl.ext ⟨by omega,a2⟩ e3;have c4:Cl h3 n3 n2 [.i .i64 0] 3:=⟨by omega,a3⟩;have qD:=ia.ext x3;have qE:=ib.ext x3;refine ξ<|ζ<|ρ U<|ν U (c2.ld U _)<|az U (qD)<|ρ U<|ν U (c3.ld U _)<|az U (qE)<|dE U U<|ε ?_;by_cases hl:a.length=b.length
 ·refine ay U (by simp[hl])<|ae ?_;refine ξ<|ζ<|ρ U<|ν U (c2.ld U _)<|ak U U<|Nq hC qD (by omega) ?_;intro bb e h4 n4 e4 a4 qU fM it;refine ε ?_;have y4:=e4.1;let I:Nat->Hf->K->Prop:=λj h' n'=>Ext h3 n3 h' n'/\(bb.num<n'.num/\h' bb=some (.c [va] e 0))/\a.drop (a.length - j)=b.drop (a.length - j);let D:Ex->Hf->K->Prop:=λex h' n'=>ex=.ret/\∃h1,Ext h3 n3 h1 n'/\h' n2=some (.c [.i .i64 (gr (val Bg a) (val Bg b))] 3 0)/\de n2 h1 h';refine aC<|An U it I D ?_ ?_ ?_ ?_ ?_ ?_ ?_ ?_
  ·rintro j h1 n1 h' n' ⟨g1,⟨g2,g3⟩,g5⟩ ex;exact⟨g1.trans ex,⟨fk g2 ex.1,by rw[ex.2 _ g2];exact g3⟩,g5⟩
  ·rintro j h1 n1 h' ⟨g1,⟨g2,g3⟩,g5⟩ bt;exact⟨g1.aj bt (by omega),⟨g2,by rw[bt _ (by omega)];exact g3⟩,g5⟩
  ·rintro j h1 n1 ⟨g1,g2,_⟩;exact⟨g2.1,g2.2,qD.ext g1⟩
  ·intro j hj;rw[rN];rfl
  ·intro h' bt;have Nl:n4.succ.num=n4.num+1:=K.fQ n4;exact⟨(e4.aj bt (by omega)).succ,⟨by omega,by rw[bt _ (by omega)];exact a4⟩,by rw[qb,gY,hl,gY]⟩
  ·rintro j hj h5 n5 E1 oZ ⟨g1,⟨g2,g3⟩,g5⟩ jb;have eN:j<a.length:=by rw[oM]at hj;exact hj
   rw[rN]at jb;simp only[lV,p7]at jb;subst jb;have hi:a.length - 1 - j<a.length:=by omega
   have Dl:a.length - 1 - j<b.length:=by omega
   rw[show a.length - j=(a.length - 1 - j)+1 by omega]at g5;have ub:a.length - (j+1)=a.length - 1 - j:=by omega
   generalize a.length - 1 - j=i at*;rw[jm hi];refine ζ<|γ U<|ε<|aL<|γ U<|ε ⟨rfl,rfl,λh7 b7=>?_⟩;have x7:Ext h3 n3 h7 n5:=g1.aj b7 (by omega);have Dn:=qE.ext x7;have d3:=c3.ext x7;have d4:=c4.ext x7;have q1:a[i]<Bg:=ha.1.get hi;have q2:b[i]<Bg:=hb.1.get Dl;simp only[Bg]at q1 q2;refine aC<|ζ<|γ U<|ρ U<|ν U (d3.ld U _)<|γ U<|bj U U (Dn) (Dl)<|ν U (Dn.get Dl _)<|dE U U<|ε ?_;by_cases he:a[i]=b[i]
   ·refine ay U (by simp<;>omega)<|ae ⟨oZ,rfl,x7,⟨g2,by rw[b7 _ (by omega)];exact g3⟩,?_⟩;rw[ub,fC hi,fC Dl,g5,he]
   ·refine an U (by simp<;>omega) ?_;have Nr:=Vv ha.1 hb.1 hl hi g5 he;refine ζ<|γ U<|pB U ⟨by omega,by omega⟩<|ρ U<|ν U (d3.ld U _)<|γ U<|bj U U (Dn) (Dl)<|ν U (Dn.get Dl _)<|pB U ⟨by omega,by omega⟩<|ak U U<|WE hC<|bL U U (d4.2) (rfl) <| λh8 a8 b8=>ε ?_;exact Θ ⟨oZ,b8 _ (by omega),rfl,h7,x7,by rw[Nr];exact a8,b8⟩
  ·rintro h' n' oZ ⟨g1,⟨g2,g3⟩,g5⟩;rw[oM,qc,jr,jr]at g5;subst g5;refine ζ<|bL U U ((c4.ext g1).2) (rfl) <| λh7 a7 b7=>ε ?_;refine Θ ⟨_,iO rfl (dL a7 rfl _),?_⟩;have:=hQ _ _ ((x3.trans g1).aj b7 (by omega));rw[Vw]at this;exact this
  ·rintro ex h' n' qt oZ ⟨rfl,nj,g1,g2,g3⟩ bt;refine⟨_,iO rfl (dL (show qt n2=_ by rw[bt _ (by omega)];exact g2) U _),?_⟩;exact hQ _ _ (((x3.trans g1).aj g3 (by omega)).aj bt (by omega))
 ·have Nr:=Vu ha hb (by decide) hl;refine an U (by simp<;>omega) ?_;refine ζ<|ρ U<|ν U (c2.ld U _)<|az U (qD)<|ρ U<|ν U (c3.ld U _)<|az U (qE)<|ak U U<|WE hC<|bL U U (c4.2) (rfl) <| λh8 a8 b8=>ε ?_;refine Θ ⟨_,iO rfl (dL a8 rfl _),?_⟩;rw[←Nr];exact hQ _ _ (x3.aj b8 (by omega))
theorem mo{v:V}(h:bB n v=true):bB n (.a [v])=true:=by simp[bB,gn,h]
theorem mq{v:V}(h:cT v v=true):cT (.a [v]) (.a [v])=true:=by simp[cT,kG,h]
theorem aiM{α:Type}{l:List α}{i:Nat}{x:α}:(l.set i x).take i=l.take i:=by
 apply BB
 ·simp
 ·intro j h1 h2;simp only[ri,mD]at h1;simp only[List.getElem_take];rw[Bs (by omega)]
theorem WH{α:Type}{l:List α}{i:Nat}{x:α}:(l.set i x).drop (i+1)=l.drop (i+1):=by
 apply BB
 ·simp
 ·intro j h1 h2;simp only[List.getElem_drop];rw[Bs (by omega)]
section
variable {h0:Hf}{n0 b3 bo:K}{x2 x4 vb:V}{a b:List Nat}
structure Ls(h0:Hf)(n0:K)(h:Hf)(n:K)(b3 bo:K)(vb:V)(L:Nat)(out:List Nat):Prop where
 ext:Ext h0 n0 h n
 c3:Cl h n b3 [vb] 271
 co:Cl h n bo (nC .u32 out) 316
 lo:n0.num<=bo.num
 Dd:b3.num≠bo.num
 len:out.length=L
theorem aiN(hC:Cd C)(fG:a.length<1000)(gp:b.length<1000)(ha:Sm Bg a)(hb:Sm Bg b)(ib:aQ h0 n0 .u32 vb b){Q1:Ex->Env->Hf->K->Prop}:
 ∀(m i:Nat) (out:List Nat) (bw:Nat) (h:Hf) (n:K),a.length - i=m->i<=a.length->Ls h0 n0 h n b3 bo vb a.length out->Sm Bg out->out.drop i=a.drop i->bw<=1->val Bg (out.take i)+val Bg (b.take i)=val Bg (a.take i)+bw*Bg ^ i->(∀(out:List Nat) (bw:Nat) (h:Hf) (n:K) E',Ls h0 n0 h n b3 bo vb a.length out->Sm Bg out->bw<=1->val Bg out+val Bg (b.take a.length)=val Bg a+bw*Bg ^ a.length->dK [(k4,x4),(k5,.sl bo 0 a.length a.length)] E'->Q1 .normal E' h n)->WC C So [(k3,.p b3 0),(k4,x4),(k5,.sl bo 0 a.length a.length),(k6,.i .i64 (bw:Nat)),(aV,.i .i64 (a.length:Nat)),(bf,.i .i64 (i:Nat))] h n (blk 0 Q1):=by
 intro m
 induction m with
 | zero=>
  intro i out bw h n hm hi p hs hd YX hv hQ;have e:i=a.length:=by omega
  subst e;refine aJ ?_;refine ζ<|aO U U<|ε ?_;refine ξ<|ay U (by simp)<|bM ?_;rw[gM,pZ (by rw[p.len];omega)]at hv;exact hQ out bw h n _ p hs YX hv ⟨rfl,rfl,trivial⟩
 | succ m ih=>
  intro i out bw h n hm hi p hs OQ YX hv hQ;have ω:i<a.length:=by omega
  have gg:i<out.length:=by rw[p.len];exact ω
  have io:aQ h n .u32 (.sl bo 0 a.length a.length) out:=p.co.qC p.len;have pc:=(ib.at_ p.ext).up p.ext.1;have heq:out[i]=a[i]:=by rw[fC gg,fC ω]at OQ;injection OQ
  have g1:aX h false 1 (.p (V.sl bo 0 a.length a.length).blk ((V.sl bo 0 a.length a.length).off+i*1))=some (.i .u32 (out[i]:Nat)):=io.get gg 1;have xy:∀{h'} {n'},Ext h n h' n'->aX h' false 1 (.p (V.sl bo 0 a.length a.length).blk ((V.sl bo 0 a.length a.length).off+i*1))=some (.i .u32 (out[i]:Nat)):=λe=>((p.co.ext e).qC p.len).get gg 1;have q1:a[i]<Bg:=ha.get ω;have q2:=hb.getD (by decide) i;have t1:=vS (B:=Bg) a i;have t2:=vS (B:=Bg) b i;rw[jm ω]at t1;simp only[Bg]at q1 q2;have tz:∀{Q:V->Hf->K->Prop},(∀h' n',Ext h n h' n'->Q (.i .u64 (b.getD i 0:Nat)) h' n')->τ C (.f 298 [] []) [.a [vb],.i .i64 (i:Nat)] h n Q:=λhQ=>CH hC pc hb (by omega) hQ;rw[heq]at g1 xy;generalize Gi:b.getD i 0=bd at*;generalize MF:a[i]=ad at*;refine aJ ?_;refine ζ<|aO U U<|ε ?_;refine ξ<|an U (by simp<;>omega)<|ae ?_;refine ξ<|aC<|ζ<|γ U<|γ U<|ε ?_;refine dh<|ao U<|ao U<|cX U U (io) (gg)<|aD U (g1) U (by simp[cT,hJ,dD,jG])<|vL U ⟨by omega,by omega⟩<|aD U (bQ p.c3.2 rfl) (mo (pc.below (χ _))) (mq (φ.da pc))<|ao U<|cj U U<|tz <| λh1 n1 e1=>vL U ⟨by omega,by omega⟩<|Ci U U ⟨by omega,by omega⟩<|ao U<|Ci U U ⟨by omega,by omega⟩<|ao U<|cG (⟨⟨Ω (by simp[Nat.testBit]),trivial⟩,⟨dj (g1) (xy e1),trivial⟩,trivial⟩) ?_;refine ζ<|γ U<|ε ?_;refine ξ<|ζ<|γ U<|aO U U<|ε ?_;have p1:Ls h0 n0 h1 n1 b3 bo vb a.length out:=⟨p.ext.trans e1,p.c3.ext e1,p.co.ext e1,p.lo,p.Dd,p.len⟩;have Fo:aQ h1 n1 .u32 (.sl bo 0 a.length a.length) out:=p1.co.qC p1.len;have fin:∀(d FG:Nat),d<1000000000->FG<=1->((d:Int)=(ad:Int) - (bd:Int) - (bw:Int)+FG*1000000000)->WC C Sk [(k3,.p b3 0),(k4,x4),(k5,.sl bo 0 a.length a.length),(k6,.i .i64 (FG:Nat)),(k7,.i .i64 (i:Nat)),(k8,.i .i64 (d:Nat)),(aV,.i .i64 (a.length:Nat)),(bf,.i .i64 (i:Nat))] h1 n1 (blk 1 (sq C Sl (sq C (.loop Sn) (blk 0 Q1)))):=by
   intro d FG hd aiO he;refine aL<|γ U<|γ U<|γ U<|pB U ⟨by omega,by omega⟩<|bj U U (Fo) (gg)<|bL U U (p1.co.2) (yt gg _ (by simp[V.off])) <| λh2 a2 b2=>ε ?_;refine aL<|cU U U ⟨by omega,by omega⟩<|γ U<|ε ?_;have p2:Ls h0 n0 h2 n1 b3 bo vb a.length (out.set i d):=⟨p1.ext.aj b2 p.lo,p1.c3.aj b2 p.Dd,⟨p1.co.1,a2⟩,p.lo,p.Dd,by rw[mD];exact p.len⟩;refine Γ (ih (i+1) (out.set i d) FG h2 n1 (by omega) (by omega) p2 (hs.set hd) ?_ aiO ?_ hQ) ⟨rfl,rfl,rfl,rfl,rfl,rfl,trivial⟩
   ·rw[WH];rw[fC gg,fC ω]at OQ;injection OQ
   ·have t3:=vS (B:=Bg) (out.set i d) i;rw[aiM,yJ,au ⟨rfl,gg⟩]at t3;rw[t3,t1,t2];have CZ:d+bd+bw=ad+FG*Bg:=by simp only[Bg];omega
    have e3:Bg ^ i*d+Bg ^ i*bd+Bg ^ i*bw=Bg ^ i*ad+FG*Bg ^ (i+1):=by rw[←gl,←gl,CZ,gl,gI];congr 1;rw[dP FG Bg,←iE,dP]
    have e4:bw*Bg ^ i=Bg ^ i*bw:=dP _ _;omega
  refine cB U (λhx=>?_) (λhx=>?_)
  ·simp only[bA]at hx;obtain⟨d,hd⟩:∃d:Nat,(d:Int)=(ad:Int) - (bd:Int) - (bw:Int)+1000000000:=⟨((ad:Int) - (bd:Int) - (bw:Int)+1000000000).toNat,by omega⟩;refine aL<|γ U<|lz U U (hd.symm) ⟨by omega,by omega⟩<|γ U<|γ U<|ε ?_;exact Γ (fin d 1 (by omega) (by omega) (by omega)) ⟨rfl,rfl,rfl,rfl,rfl,rfl,rfl,rfl,trivial⟩
  ·simp only[cV]at hx;obtain⟨d,hd⟩:∃d:Nat,(d:Int)=(ad:Int) - (bd:Int) - (bw:Int):=⟨((ad:Int) - (bd:Int) - (bw:Int)).toNat,by omega⟩;refine ae ?_;rw[←hd];exact Γ (fin d 0 (by omega) (by omega) (by omega)) ⟨rfl,rfl,rfl,rfl,rfl,rfl,rfl,rfl,trivial⟩
end
theorem WI(hC:Cd C){va vb:V}{a b:List Nat}(fG:a.length<1000)(gp:b.length<1000)(ha:Sm Bg a)(hb:eA Bg b)(ia:aQ h n .u32 va a)(ib:aQ h n .u32 vb b)(hle:val Bg b<=val Bg a)
 (hQ:∀v' l' h' n',Ext h n h' n'->aQ h' n' .u32 v' l'->eA Bg l'->val Bg l'=val Bg a - val Bg b->(v'=.ns\/n.num<=v'.blk.num)->Q (.a [v']) h' n'):τ C (.f 287 [] []) [.a [va],.a [vb]] h n Q:=by
 refine τ.go hC.f287 U ?_;refine ζ<|et U (rfl) (fh ia.one) <| λh1 n1 dS a1 e1=>et U (rfl) (fh ib.one) <| λh2 n2 iL a2 e2=>du <| λh3 n3 og a3 e3=>ε ?_;have x3:=(e1.trans e2).trans e3;have c2:Cl h3 n3 n [va] 271:=Cl.ext (Cl.ext ⟨by omega,a1⟩ e2) e3;have c3:Cl h3 n3 n1 [vb] 271:=Cl.ext ⟨by omega,a2⟩ e3;have c4:Cl h3 n3 n2 [.ns] 271:=⟨by omega,a3⟩;have qD:=ia.ext x3;have qE:=ib.ext x3;refine ζ<|ρ U<|ν U (c2.ld U _)<|az U (qD)<|wS U U (by omega) (by omega) <| λh4 n4 wj a4 e4=>γ U<|ε ?_;rw[Ao]at a4;have GD:=qD.ext e4;refine ζ<|γ U<|ρ U<|ν U ((c2.ext e4).ld U _)<|ac1 U (a4) ((by rw[K6,List.length_replicate])) U (GD) (acQ _) <| λh5 a5 b5=>ε ?_;refine ζ<|γ U<|ε ?_;have e5:Ext h3 n3 h5 n4:=e4.aj b5 (χ _);have p:Ls h3 n3 h5 n4 n1 n3 vb a.length a:=⟨e5,c3.ext e5,⟨by omega,a5⟩,χ _,by omega,rfl⟩;refine ξ<|ζ<|γ U<|az U (p.co.qC U)<|γ U<|ε ?_;refine aC<|Γ (aiN (x4:=.p n2 0) hC fG gp ha hb.1 qE _ 0 a 0 h5 n4 rfl (by omega) p ha rfl (by omega) (by simp[val]) ?_) ⟨rfl,rfl,rfl,rfl,rfl,rfl,trivial⟩;intro out bw h6 n6 E6 p6 hs YX hv hE;refine dQ hE ?_;have hK:b.length<=a.length:=pH hb.2 ha (by decide) hle;rw[pZ hK]at hv;have h2:=pF hs;rw[p6.len]at h2;have aiP:bw=0:=by
  rcases jC 0 bw with h | h
  ·have:bw=1:=by omega
   subst this;omega
  ·omega
 subst aiP;have io:aQ h6 n6 .u32 (.sl n3 0 a.length a.length) out:=p6.co.qC p6.len;have d4:=c4.ext p6.ext;refine ζ<|γ U<|ak U U<|yN hC (χ _) io (by have:=p6.len;omega) <| λv7 h7 n7 e7 i7 Ns xA=>mc (vT rfl i7.cells i7.one)<|bL U U ((d4.ext e7).2) (dW rfl rfl (fh i7.one)) <| λh8 a8 b8=>ε ?_;have x8:Ext h n h8 n7:=((x3.trans p6.ext).trans e7).aj b8 (by omega);refine Θ ⟨_,iO rfl (bQ a8 rfl),?_⟩;exact hQ v7 (dd out) h8 n7 x8 ((i7.up e7.1).aj b8 (Or.inr (by rw[Ns];show n3.num≠n2.num;omega))) (rM hs) (by rw[pG];omega) (Or.inr (by rw[Ns];show n.num<=n3.num;omega))
end
section
variable {C:Nat->Option bN}{h:Hf}{n:K}{Q:V->Hf->K->Prop}
section
variable {h0:Hf}{n0 b3 bo:K}{x4 va vb:V}{a b:List Nat}
abbrev Em(b3 bo:K)(x4 va:V)(L la lb i ad:Nat)(r:Env):Env:=
 (k3,.p b3 0)::(k4,x4)::(k5,.sl bo 0 L L)::(k6,.i .i64 (i:Nat))::(k7,.i .u32 (ad:Nat))::(bn,va)::(bH,.i .i64 (la:Nat))::(bC,.i .i64 (i:Nat))::(bF,.i .i64 ((lb+1:Nat):Int))::r
theorem WJ(hC:Cd C)(fG:a.length<1000)(gp:b.length<1000)(ha:Sm Bg a)(hb:Sm Bg b)(ib:aQ h0 n0 .u32 vb b){i:Nat}(hi:i<a.length){out:List Nat}{carry j:Nat}
 (p:Ls h0 n0 h n b3 bo vb (a.length+b.length+1) out)(hs:Sm Bg out)(hc:carry<Bg)(hj:j<=b.length){Q1:Ex->Env->Hf->K->Prop}
 (hQ:∀h' n' E',Ls h0 n0 h' n' b3 bo vb (a.length+b.length+1) (out.set (i+j) ((out.getD (i+j) 0+a[i]*b.getD j 0+carry) % Bg))->dK (Em b3 bo x4 va (a.length+b.length+1) a.length b.length i a[i] [(k8,.i .u64 ((out.getD (i+j) 0+a[i]*b.getD j 0+carry) / Bg:Nat)),(cC,.i .i64 (j:Nat))]) E'->Q1 .normal E' h' n'):
 WC C Sf (Em b3 bo x4 va (a.length+b.length+1) a.length b.length i a[i] [(k8,.i .u64 (carry:Nat)),(cC,.i .i64 (j:Nat))]) h n Q1:=by
 have io:aQ h n .u32 (.sl bo 0 (a.length+b.length+1) (a.length+b.length+1)) out:=p.co.qC p.len;have tM:i+j<a.length+b.length+1:=by omega
 have pI:i+j<out.length:=by rw[p.len];exact tM
 have go:=io.get pI 1;have go':∀{h'} {n'},Ext h n h' n'->aX h' false 1 (.p (V.sl bo 0 (a.length+b.length+1) (a.length+b.length+1)).blk ((V.sl bo 0 (a.length+b.length+1) (a.length+b.length+1)).off+(i+j)*1))=some (.i .u32 (out[i+j]:Nat)):=λe=>((p.co.ext e).qC p.len).get pI 1;have pc:=(ib.at_ p.ext).up p.ext.1;have q1:out[i+j]<Bg:=hs.get pI;have q2:a[i]<Bg:=ha.get hi;have q3:b.getD j 0<Bg:=hb.getD (by decide) j;have sW:=hc;simp only[Bg]at q1 q2 q3 sW;rw[jm pI]at hQ;have tz:∀{Q:V->Hf->K->Prop},(∀h' n',Ext h n h' n'->Q (.i .u64 (b.getD j 0:Nat)) h' n')->τ C (.f 298 [] []) [.a [vb],.i .i64 (j:Nat)] h n Q:=λhQ=>CH hC pc hb (by omega) hQ;generalize C1:out[i+j]=od at*;generalize MF:a[i]=ad at*;generalize Gi:b.getD j 0=bd at*;have hmul:ad*bd<=999999999*999999999:=xQ (by omega) (by omega);have e1:(ad:Int)*(bd:Int)=(ad*bd:Nat):=by simp
 refine ζ<|γ U<|γ U<|ε ?_;refine dh<|ao U<|ao U<|ao U<|ED U U (show(i:Int)+(j:Int)=((i+j:Nat):Int) from rfl) ⟨by omega,by omega⟩<|cX U U (io) (pI)<|aD U (go) U (by simp[cT,hJ,dD,jG])<|vL U ⟨by omega,by omega⟩<|ao U<|vL U ⟨by omega,by omega⟩<|aD U (bQ p.c3.2 rfl) (mo (pc.below (χ _))) (mq (φ.da pc))<|ao U<|cj U U<|tz <| λh1 n1 x1=>Ap U U (e1) ⟨by omega,by omega⟩<|yo U U ⟨by omega,by omega⟩<|ao U<|yo U U ⟨by omega,by omega⟩<|ao U<|cG (⟨⟨Ω (by simp[Nat.testBit]),trivial⟩,⟨dj (go) (go' x1),trivial⟩,trivial⟩) ?_;have e2:(od:Int)+(ad*bd:Nat)+(carry:Int)=((od+ad*bd+carry:Nat):Int):=by omega
 rw[e2];generalize hx:od+ad*bd+carry=x at*;have p1:Ls h0 n0 h1 n1 b3 bo vb (a.length+b.length+1) out:=⟨p.ext.trans x1,p.c3.ext x1,p.co.ext x1,p.lo,p.Dd,p.len⟩;have Fo:aQ h1 n1 .u32 (.sl bo 0 (a.length+b.length+1) (a.length+b.length+1)) out:=p1.co.qC p1.len;refine ζ<|γ U<|γ U<|γ U<|lz U U (show(i:Int)+(j:Int)=((i+j:Nat):Int) from rfl) ⟨by omega,by omega⟩<|γ U<|HL (b:=1000000000) U U (by omega)<|pB U ⟨by omega,by omega⟩<|bj U U (Fo) (pI)<|bL U U (p1.co.2) (yt pI _ (by simp[V.off])) <| λh2 a2 b2=>ε ?_;refine aL<|γ U<|Ez (b:=1000000000) U U (by omega) ⟨by omega,by omega⟩<|γ U<|ε ?_;exact hQ h2 _ _ ⟨p1.ext.aj b2 p.lo,p1.c3.aj b2 p.Dd,⟨p1.co.1,a2⟩,p.lo,p.Dd,by rw[mD];exact p.len⟩ ⟨rfl,rfl,rfl,rfl,rfl,rfl,rfl,rfl,rfl,rfl,rfl,trivial⟩
theorem aiQ(hC:Cd C)(fG:a.length<1000)(gp:b.length<1000)(ha:Sm Bg a)(hb:Sm Bg b)(ib:aQ h0 n0 .u32 vb b){i:Nat}(hi:i<a.length)(V0:Nat){Q1:Ex->Env->Hf->K->Prop}
 (hQ:∀out h' n' E',Ls h0 n0 h' n' b3 bo vb (a.length+b.length+1) out->Sm Bg out->val Bg out=V0+a[i]*val Bg b*Bg ^ i->(∀k,i+1+b.length<=k->out.getD k 0=0)->dK (Em b3 bo x4 va (a.length+b.length+1) a.length b.length i a[i] []) E'->Q1 .normal E' h' n'):
 ∀(m j:Nat) (out:List Nat) (carry:Nat) (h:Hf) (n:K),b.length - j=m->j<=b.length->Ls h0 n0 h n b3 bo vb (a.length+b.length+1) out->Sm Bg out->carry<Bg->val Bg out+carry*Bg ^ (i+j)=V0+a[i]*val Bg (b.take j)*Bg ^ i->(∀k,i+b.length<=k->out.getD k 0=0)->WC C Sg (Em b3 bo x4 va (a.length+b.length+1) a.length b.length i a[i] [(k8,.i .u64 (carry:Nat)),(cC,.i .i64 (j:Nat))]) h n (blk 2 Q1):=by
 intro m
 induction m with
 | zero=>
  intro j out carry h n hm hj p hs hc hv hz;have ej:j=b.length:=by omega
  subst ej;rw[gM]at hv;refine aJ ?_;refine ζ<|aO U U<|ε ?_;refine ξ<|an U (by simp<;>omega)<|ae<|ξ<|aC ?_;have z1:=hz (i+b.length) (by omega);have z2:b.getD b.length 0=0:=by simp
  have oK:i+b.length<out.length:=by rw[p.len];omega
  refine Γ (WJ hC fG gp ha hb ib hi p hs hc (χ _) ?_) ⟨rfl,rfl,rfl,rfl,rfl,rfl,rfl,rfl,rfl,rfl,rfl,trivial⟩;intro h1 n1 E1 p1 s1;simp only[z1,z2,kE,iI,zC hc]at p1;refine dQ s1 ?_;refine aL<|cU U U ⟨by omega,by omega⟩<|γ U<|ε ?_;refine aJ ?_;refine ζ<|aO U U<|ε ?_;refine ξ<|ay U (by simp)<|bM ?_;have vs:=Io (B:=Bg) out oK carry;have e0:out[i+b.length]=0:=by rw[←jm oK];exact z1
  rw[e0,kE,kF,dP (Bg ^ (i+b.length))]at vs;refine hQ _ h1 n1 _ p1 (hs.set hc) (by rw[vs];exact hv) (λk hk=>?_) ⟨rfl,rfl,rfl,rfl,rfl,rfl,rfl,rfl,rfl,trivial⟩;rw[yJ,Ξ (by omega)];exact hz k (by omega)
 | succ m ih=>
  intro j out carry h n hm hj p hs hc hv hz;have ω:j<b.length:=by omega
  have oK:i+j<out.length:=by rw[p.len];omega
  refine aJ ?_;refine ζ<|aO U U<|ε ?_;refine ξ<|an U (by simp<;>omega)<|ae<|ξ<|aC ?_;refine Γ (WJ hC fG gp ha hb ib hi p hs hc hj ?_) ⟨rfl,rfl,rfl,rfl,rfl,rfl,rfl,rfl,rfl,rfl,rfl,trivial⟩;intro h1 n1 E1 p1 s1;refine dQ s1 ?_;have q1:out[i+j]<Bg:=hs.get oK;have q2:a[i]<Bg:=ha.get hi;have q3:b.getD j 0<Bg:=hb.getD (by decide) j;have sW:=hc;simp only[Bg]at q1 q2 q3 sW;have t1:=vS (B:=Bg) b j;rw[jm oK]at p1 s1 ⊢;have vs:=Io (B:=Bg) out oK ((out[i+j]+a[i]*b.getD j 0+carry) % Bg);generalize C1:out[i+j]=od at*;generalize MF:a[i]=ad at*;generalize Gi:b.getD j 0=bd at*;have hmul:ad*bd<=999999999*999999999:=xQ (by omega) (by omega);refine aL<|cU U U ⟨by omega,by omega⟩<|γ U<|ε ?_;have X8:(od+ad*bd+carry) / Bg<Bg:=by show _ / 1000000000<1000000000;omega
  refine Γ (ih (j+1) _ _ h1 n1 (by omega) (by omega) p1 (hs.set (lS _ (by decide))) X8 ?_ (λk hk=>?_)) ⟨rfl,rfl,rfl,rfl,rfl,rfl,rfl,rfl,rfl,rfl,rfl,trivial⟩
  ·have dm:=xO (od+ad*bd+carry) Bg;generalize (od+ad*bd+carry) / Bg=qx at*;generalize (od+ad*bd+carry) % Bg=rx at*;rw[t1];have e1:Bg ^ (i+j)*od+Bg ^ (i+j)*(ad*bd)+Bg ^ (i+j)*carry=Bg ^ (i+j)*rx+Bg ^ (i+j)*(Bg*qx):=by
    rw[←gl,←gl,←gl];congr 1;omega
   have e2:qx*Bg ^ (i+(j+1))=Bg ^ (i+j)*(Bg*qx):=by rw[←mE,gI,dP,iE]
   have e3:ad*(val Bg (List.take j b)+Bg ^ j*bd)*Bg ^ i=ad*val Bg (List.take j b)*Bg ^ i+Bg ^ (i+j)*(ad*bd):=by rw[gl,iJ];congr 1;rw[Nat.pow_add];simp only[dP,Nat.mul_left_comm,iE]
   have e4:carry*Bg ^ (i+j)=Bg ^ (i+j)*carry:=dP _ _;rw[e3];omega
  ·rw[yJ,Ξ (by omega)];exact hz k hk
theorem aiR(hC:Cd C)(fG:a.length<1000)(gp:b.length<1000)(ha:Sm Bg a)(hb:Sm Bg b)(ia:aQ h0 n0 .u32 va a)(ib:aQ h0 n0 .u32 vb b){Q1:Ex->Env->Hf->K->Prop}
 (hQ:∀out h' n' E',Ls h0 n0 h' n' b3 bo vb (a.length+b.length+1) out->Sm Bg out->val Bg out=val Bg a*val Bg b->dK [(k4,x4),(k5,.sl bo 0 (a.length+b.length+1) (a.length+b.length+1))] E'->Q1 .normal E' h' n'):
 ∀(m i:Nat) (out:List Nat) (h:Hf) (n:K),a.length - i=m->i<=a.length->Ls h0 n0 h n b3 bo vb (a.length+b.length+1) out->Sm Bg out->val Bg out=val Bg (a.take i)*val Bg b->(∀k,i+b.length<=k->out.getD k 0=0)->WC C Sj [(k3,.p b3 0),(k4,x4),(k5,.sl bo 0 (a.length+b.length+1) (a.length+b.length+1)),(bn,va),(bH,.i .i64 (a.length:Nat)),(bC,.i .i64 (i:Nat))] h n (blk 0 Q1):=by
 intro m
 induction m with
 | zero=>
  intro i out h n hm hi p hs hv hz;have ei:i=a.length:=by omega
  subst ei;rw[gM]at hv;refine aJ ?_;refine ζ<|aO U U<|ε ?_;exact ξ<|ay U (by simp)<|bM (hQ out h _ _ p hs hv ⟨rfl,rfl,trivial⟩)
 | succ m ih=>
  intro i out h n hm hi p hs hv hz;have ω:i<a.length:=by omega
  have oP:=ia.at_ p.ext;have pc:=ib.at_ p.ext;refine aJ ?_;refine ζ<|aO U U<|ε ?_;refine ξ<|an U (by simp<;>omega)<|ae ?_;refine ξ<|aC<|ζ<|γ U<|bj U U (oP) (ω)<|ν U (oP.get ω _)<|γ U<|γ U<|ε ?_;refine ζ<|γ U<|ε ?_;refine ζ<|ρ U<|ν U (p.c3.ld U _)<|az U (pc)<|cU U U ⟨by omega,by omega⟩<|γ U<|ε ?_;refine aC<|Γ (aiQ hC fG gp ha hb ib ω (val Bg out) ?_ _ 0 out 0 h n rfl (by omega) p hs (by decide) (by simp[val]) hz) ⟨rfl,rfl,rfl,rfl,rfl,rfl,rfl,rfl,rfl,rfl,rfl,trivial⟩;intro MG h1 n1 E1 p1 kA v1 z1 s1;refine dQ s1 ?_;refine aL<|cU U U ⟨by omega,by omega⟩<|γ U<|ε ?_;refine Γ (ih (i+1) MG h1 n1 (by omega) (by omega) p1 kA ?_ z1) ⟨rfl,rfl,rfl,rfl,rfl,rfl,trivial⟩;rw[v1,hv,vS,jm ω,iJ];congr 1;simp only[dP,Nat.mul_left_comm,iE]
end
theorem Nt(hC:Cd C){va vb:V}{a b:List Nat}(fG:a.length<1000)(gp:b.length<1000)(ha:Sm Bg a)(hb:Sm Bg b)(ia:aQ h n .u32 va a)(ib:aQ h n .u32 vb b)
 (hQ:∀v' l' h' n',Ext h n h' n'->aQ h' n' .u32 v' l'->eA Bg l'->val Bg l'=val Bg a*val Bg b->(v'=.ns\/n.num<=v'.blk.num)->Q (.a [v']) h' n'):τ C (.f 288 [] []) [.a [va],.a [vb]] h n Q:=by
 refine τ.go hC.f288 U ?_;refine ζ<|et U (rfl) (fh ia.one) <| λh1 n1 dS a1 e1=>et U (rfl) (fh ib.one) <| λh2 n2 iL a2 e2=>du <| λh3 n3 og a3 e3=>ε ?_;have x3:=(e1.trans e2).trans e3;have c2:Cl h3 n3 n [va] 271:=Cl.ext (Cl.ext ⟨by omega,a1⟩ e2) e3;have c3:Cl h3 n3 n1 [vb] 271:=Cl.ext ⟨by omega,a2⟩ e3;have c4:Cl h3 n3 n2 [.ns] 271:=⟨by omega,a3⟩;have qD:=ia.ext x3;have qE:=ib.ext x3;refine ζ<|ρ U<|ν U (c2.ld U _)<|az U (qD)<|ρ U<|ν U (c3.ld U _)<|az U (qE)<|lz U U (show(a.length:Int)+(b.length:Int)=((a.length+b.length:Nat):Int) from rfl) ⟨by omega,by omega⟩<|lz U U (show((a.length+b.length:Nat):Int)+1=((a.length+b.length+1:Nat):Int) from rfl) ⟨by omega,by omega⟩<|wS U U (by omega) (by omega) <| λh4 n4 wj a4 e4=>γ U<|ε ?_;rw[Ao]at a4;have p:Ls h3 n3 h4 n4 n1 n3 vb (a.length+b.length+1) (List.replicate (a.length+b.length+1) 0):=⟨e4,c3.ext e4,⟨by omega,a4⟩,χ _,by omega,by simp⟩;refine ξ<|ζ<|ρ U<|ν U ((c2.ext e4).ld U _)<|az U (qD)<|γ U<|ε ?_;refine aC<|Γ (aiR (x4:=.p n2 0) hC fG gp ha hb qD qE ?_ _ 0 _ h4 n4 rfl (by omega) p (Sm.rep (by decide) _) (by rw[Vr];simp[val]) (λk _=>by simp[fj,List.getElem?_replicate];split<;>rfl)) ⟨rfl,rfl,rfl,rfl,rfl,rfl,trivial⟩;intro out h5 n5 E5 p5 hs5 v5 s5;refine dQ s5 ?_;have io:aQ h5 n5 .u32 (.sl n3 0 (a.length+b.length+1) (a.length+b.length+1)) out:=p5.co.qC p5.len;have d4:=c4.ext p5.ext;refine ζ<|γ U<|ak U U<|yN hC (χ _) io (by have:=p5.len;omega) <| λv7 h7 n7 e7 i7 Ns xA=>mc (vT rfl i7.cells i7.one)<|bL U U ((d4.ext e7).2) (dW rfl rfl (fh i7.one)) <| λh8 a8 b8=>ε ?_;have x8:Ext h n h8 n7:=((x3.trans p5.ext).trans e7).aj b8 (by omega);refine Θ ⟨_,iO rfl (bQ a8 rfl),?_⟩;exact hQ v7 (dd out) h8 n7 x8 ((i7.up e7.1).aj b8 (Or.inr (by rw[Ns];show n3.num≠n2.num;omega))) (rM hs5) (by rw[pG,v5]) (Or.inr (by rw[Ns];show n.num<=n3.num;omega))
end
section
variable {C:Nat->Option bN}{h:Hf}{n:K}{Q:V->Hf->K->Prop}
theorem aiS{x A d:Nat}(B:Nat)(hd:0<d):(x+B*(A % d)) / d+B*(A / d)=(x+B*A) / d:=by
 have h:=xO A d;have e:x+B*A=(x+B*(A % d))+d*(B*(A / d)):=by rw[Nat.mul_left_comm d,mE,←gl,rm (A % d),h]
 rw[e,Nat.add_mul_div_left _ _ hd]
structure Sh(h0:Hf)(n0:K)(h:Hf)(n:K)(b3 b4 b5 b6 b7 bo:K)(d L:Nat)(out:List Nat)(rest:Nat):Prop where
 ext:Ext h0 n0 h n
 c3:Cl h n b3 [.i .u32 (d:Nat)] 316
 c4:Cl h n b4 [.ns] 271
 c5:Cl h n b5 [.ns] 271
 c6:Cl h n b6 [.sl bo 0 L L] 269
 c7:Cl h n b7 [.i .u64 (rest:Nat)] 326
 co:Cl h n bo (nC .u32 out) 316
 len:out.length=L
structure Shn(n0 b3 b4 b5 b6 b7 bo:K):Prop where
 l3:n0.num<=b3.num
 l4:b3.num<b4.num
 l5:b4.num<b5.num
 lo:b5.num<bo.num
 l6:bo.num<b6.num
 l7:b6.num<b7.num
theorem Sh.on{h0:Hf}{n0:K}{h h':Hf}{n n' b3 b4 b5 b6 b7 bo:K}{d L:Nat}{out:List Nat}{rest:Nat}(s:Sh h0 n0 h n b3 b4 b5 b6 b7 bo d L out rest)(e:Ext h n h' n'):Sh h0 n0 h' n' b3 b4 b5 b6 b7 bo d L out rest:=
 ⟨s.ext.trans e,s.c3.ext e,s.c4.ext e,s.c5.ext e,s.c6.ext e,s.c7.ext e,s.co.ext e,s.len⟩
theorem Sh.aj{h0:Hf}{n0:K}{h h':Hf}{n b3 b4 b5 b6 b7 bo b:K}{d L:Nat}{out:List Nat}{rest:Nat}(s:Sh h0 n0 h n b3 b4 b5 b6 b7 bo d L out rest)(o:Shn n0 b3 b4 b5 b6 b7 bo)(hb:b7.num<b.num)(e:de b h h'):Sh h0 n0 h' n b3 b4 b5 b6 b7 bo d L out rest:=by obtain⟨l3,l4,l5,lo,l6,l7⟩:=o;exact⟨s.ext.aj e (by omega),s.c3.aj e (by omega),s.c4.aj e (by omega),s.c5.aj e (by omega),s.c6.aj e (by omega),s.c7.aj e (by omega),s.co.aj e (by omega),s.len⟩
theorem WK(hC:Cd C){va:V}{a:List Nat}{d:Nat}(fG:a.length<1000)(ha:Sm Bg a)(pV:0<d)(hd:d<Bg)(ia:aQ h n .u32 va a)
 (hQ:∀v1 q v2 r h' n',Ext h n h' n'->aQ h' n' .u32 v1 q->eA Bg q->val Bg q=val Bg a / d->aQ h' n' .u32 v2 r->eA Bg r->val Bg r=val Bg a % d->(v1=.ns\/n.num<=v1.blk.num)->(v2=.ns\/n.num<=v2.blk.num)->Q (.u [.a [v1],.a [v2]]) h' n'):τ C (.f 296 [] []) [.a [va],.i .u32 (d:Nat)] h n Q:=by
 have CZ:=hd;simp only[Bg]at CZ;refine τ.go hC.f296 U ?_;refine ζ<|et U (rfl) (fh ia.one) <| λh1 n1 dS a1 e1=>et U (rfl) (rfl) <| λh2 n2 iL a2 e2=>du <| λh3 n3 og a3 e3=>du <| λh4 n4 wj a4 e4=>ε ?_;have x4:=((e1.trans e2).trans e3).trans e4;have c2:Cl h4 n4 n [va] 271:=Cl.ext (Cl.ext (Cl.ext ⟨by omega,a1⟩ e2) e3) e4;have c3:Cl h4 n4 n1 [.i .u32 (d:Nat)] 316:=Cl.ext (Cl.ext ⟨by omega,a2⟩ e3) e4;have c4:Cl h4 n4 n2 [.ns] 271:=Cl.ext ⟨by omega,a3⟩ e4;have c5:Cl h4 n4 n3 [.ns] 271:=⟨by omega,a4⟩;have GD:=ia.ext x4;refine ζ<|ρ U<|ν U (c2.ld U _)<|az U (GD)<|wS U U (by omega) (by omega) <| λh5 n5 xz a5 e5=>du <| λh6 n6 oZ a6 e6=>bL U U (a6) (rfl) <| λh7 a7 b7=>ε ?_;rw[Ao]at a5;have x7:Ext h4 n4 h7 n6:=(e5.trans e6).aj b7 (by omega);have co:Cl h7 n6 n4 (nC .u32 (List.replicate a.length 0)) 316:=Cl.aj (n:=n6) (Cl.ext ⟨by omega,a5⟩ e6) b7 (by omega);refine ζ<|du <| λh8 n8 Gp a8 e8=>bL U U (a8) (rfl) <| λh9 a9 b9=>ε ?_;have YY:Ext h7 n6 h9 n8:=e8.aj b9 (χ _);have x9:=x7.trans YY;have c69:Cl h9 n8 n5 [.sl n4 0 a.length a.length] 269:=Cl.ext ⟨by omega,a7⟩ YY;have ord:Shn n n1 n2 n3 n5 n6 n4:=⟨by omega,by omega,by omega,by omega,by omega,by omega⟩;have s9:Sh h n h9 n8 n1 n2 n3 n5 n6 n4 d a.length (List.replicate a.length 0) 0:=⟨x4.trans x9,c3.ext x9,c4.ext x9,c5.ext x9,c69,⟨by omega,a9⟩,co.ext YY,by simp⟩;have ia9:=GD.ext x9;refine ξ<|ζ<|ρ U<|ν U ((c2.ext x9).ld U _)<|ak U U<|Nq hC ia9 (by omega) ?_;intro bb e kC eT oT zd qU fM it;refine ε ?_;have s10:=s9.on oT;have auz:=ia9.ext oT;have Fm:=s10.ext;have y10:=oT.1;let I:Nat->Hf->K->Prop:=λj h' n'=>(bb.num<n'.num/\h' bb=some (.c [va] e 0))/\∃out rest,Sh h n h' n' n1 n2 n3 n5 n6 n4 d a.length out rest/\Sm Bg out/\rest=val Bg (a.drop (a.length - j)) % d/\val Bg (out.drop (a.length - j))=val Bg (a.drop (a.length - j)) / d;refine aC<|An U it I (λ_ _ _=>False) ?_ ?_ ?_ ?_ ?_ ?_ ?_ ?_
 ·rintro j h1 n1 h' n' ⟨⟨g2,g3⟩,out,rest,g4,g5,g6,g7⟩ ex;exact⟨⟨fk g2 ex.1,by rw[ex.2 _ g2];exact g3⟩,out,rest,g4.on ex,g5,g6,g7⟩
 ·rintro j h1 n1 h' ⟨⟨g2,g3⟩,out,rest,g4,g5,g6,g7⟩ bt;exact⟨⟨g2,by rw[bt _ (by omega)];exact g3⟩,out,rest,g4.aj ord (by omega) bt,g5,g6,g7⟩
 ·rintro j h1 n1 ⟨g2,out,rest,g4,_⟩;exact⟨g2.1,g2.2,ia.ext g4.ext⟩
 ·intro j hj;rw[rN];rfl
 ·intro h' bt;have Nl:eT.succ.num=eT.num+1:=K.fQ eT;refine⟨⟨by omega,by rw[bt _ (by omega)];exact zd⟩,_,0,(s10.aj ord (by omega) bt).on ⟨by omega,λ_ _=>rfl⟩,Sm.rep (by decide) _,?_,?_⟩
  ·rw[qb,gY];simp[val]
  ·rw[qb,gY,re (by simp)];simp[val]
 ·rintro j hj mN tA E1 Nu ⟨⟨g2,g3⟩,out,rest,g4,g5,g6,g7⟩ jb;have eN:j<a.length:=by rw[oM]at hj;exact hj
  rw[rN]at jb;simp only[lV,p7]at jb;subst jb;have hi:a.length - 1 - j<a.length:=by omega
  rw[show a.length - j=(a.length - 1 - j)+1 by omega]at g6 g7;have ub:a.length - (j+1)=a.length - 1 - j:=by omega
  generalize a.length - 1 - j=i at*;rw[jm hi];refine ζ<|γ U<|ε<|aL<|γ U<|ε ⟨rfl,rfl,λjO b12=>?_⟩;have qZ:=g4.aj ord (by omega) b12;have gg:i<out.length:=by rw[qZ.len];exact hi
  have q1:a[i]<Bg:=ha.get hi;have hr:rest<d:=by rw[g6];exact lS _ pV
  have hx:rest*1000000000+a[i]<d*Bg:=by
   have:rest*Bg+Bg<=d*Bg:=by rw[←xS];exact gX _ hr
   simp only[Bg]at this q1 ⊢;omega
  have YZ:(rest*1000000000+a[i]) / d<1000000000:=Nat.div_lt_of_lt_mul hx;have hxb:d*Bg<=1000000000*1000000000:=xQ (by omega) (χ _);have vd:=AE (B:=Bg) a hi;have vo:=AE (B:=Bg) (out.set i ((rest*1000000000+a[i]) / d)) (i:=i) (by rw[mD];exact gg);rw[Dy,WH]at vo;simp only[Bg]at q1;have xq:rest*1000000000+a[i]=a[i]+Bg*rest:=by simp only[Bg];omega
  have e6:val Bg (a.drop i) % d=(rest*1000000000+a[i]) % d:=by rw[vd,xq,g6,←Mo]
  have e7:val Bg ((out.set i ((rest*1000000000+a[i]) / d)).drop i)=val Bg (a.drop i) / d:=by rw[vo,g7,vd,xq,g6];exact aiS Bg pV
  generalize hxx:rest*1000000000+a[i]=x at*;have Dh:(0:Int)<=((x / d:Nat):Int):=sE _;have IH:((x / d:Nat):Int)<=18446744073709551615:=by generalize x / d=y at YZ ⊢;omega
  have aiW:((x / d:Nat):Int)<=4294967295:=by generalize x / d=y at YZ ⊢;omega
  refine aC<|ζ<|ν U (qZ.c7.ld U _)<|K9 U U ((show(rest:Int)*1000000000=((rest*1000000000:Nat):Int) by omega)) ⟨by omega,by omega⟩<|γ U<|pB U ⟨by omega,by omega⟩<|lz U U ((show((rest*1000000000:Nat):Int)+(a[i]:Nat)=(x:Nat) by omega)) ⟨by omega,by omega⟩<|γ U<|ε ?_;have io:aQ jO tA .u32 (.sl n4 0 a.length a.length) out:=qZ.co.qC qZ.len;have be:bB tA (.sl n4 0 a.length a.length)=true:=io.below (χ _);refine dh<|aD U (qZ.c6.ld U _) (be) (φ.da io)<|ao U<|ao U<|aD U (qZ.c3.ld U _) U (fK _ _)<|vL U ⟨by omega,by omega⟩<|Rr U U (pV) (⟨Dh,IH⟩)<|vL U (⟨Dh,aiW⟩)<|cX U U (io) (gg)<|fV U U (qZ.co.2) (yt gg _ (by simp[V.off])) <| λsA MI ef=>cG (⟨⟨Ω (by simp[Nat.testBit]),trivial⟩,⟨Ω (by simp[Nat.testBit]),trivial⟩,trivial⟩) ?_;obtain⟨l3,l4,l5,lo,l6,l7⟩:=ord;have auA:=qZ.c7.1;have yO:de n4 jO sA:=ef;have WL:=qZ.c3.aj yO (by omega);have WM:=qZ.c7.aj yO (by omega);refine aL<|γ U<|ν U (WL.ld U _)<|pB U ⟨by omega,by omega⟩<|HL U U (pV)<|bL U U (WM.2) (rfl) <| λDp Y0 Ah=>ε ?_;have pK:de n6 sA Dp:=Ah;refine⟨Nu,(pK eT (by omega)).trans (yO eT (by omega)),⟨g2,(pK bb (by omega)).trans ((yO bb (by omega)).trans ((b12 bb (by omega)).trans g3))⟩,_,_,⟨(qZ.ext.aj yO (by omega)).aj pK (by omega),WL.aj pK (by omega),(qZ.c4.aj yO (by omega)).aj pK (by omega),(qZ.c5.aj yO (by omega)).aj pK (by omega),(qZ.c6.aj yO (by omega)).aj pK (by omega),⟨WM.1,Y0⟩,Cl.aj ⟨qZ.co.1,MI⟩ pK (by omega),by rw[mD];exact qZ.len⟩,g5.set YZ,by rw[ub];exact e6.symm,by rw[ub];exact e7⟩
 ·rintro h' n' Nu ⟨⟨g2,g3⟩,out,rest,s,g5,g6,g7⟩;rw[oM,qc,jr]at g6;rw[oM,qc,jr,jr]at g7;have io:aQ h' n' .u32 (.sl n4 0 a.length a.length) out:=s.co.qC s.len;have be:bB n' (.sl n4 0 a.length a.length)=true:=io.below (χ _);have hr:rest<d:=by rw[g6];exact lS _ pV
  have l7:∀{H:Hf},Ag n' h' H->aX H false 1 (.p n6 0)=some (.i .u64 (rest:Nat)):=λag=>(s.c7.ext (ag.x (χ _))).ld U _;have A9:=s.len;refine dh<|aD U (s.c6.ld U _) (be) (φ.da io)<|cj U U<|yN hC (χ _) io (by omega) <| λv1 nj M9 zq OR JF r1'=>wR (vT rfl OR.cells OR.one)<|aD U (l7 zq.ag) U (fK _ _)<|vL U ⟨by omega,by omega⟩<|rK U <| λqt n2' auB a2' FE=>cj U U<|yN hC (l:=[rest]) (χ _) (φ.whole (len:=1) (by omega) a2' rfl) (by simp) <| λv3 MK YI GF OS q3' r3'=>wR (vT rfl OS.cells OS.one)<|fV U U (((s.c4.ext ((zq.trans FE).trans GF))).2) (dW rfl rfl (fh OR.one)) <| λOF a4' ny=>fV U U ((Cl.aj (n:=YI) (s.c5.ext ((zq.trans FE).trans GF)) ny (by omega)).2) (dW rfl rfl (fh OS.one)) <| λJa a5' JG=>cG (⟨⟨Ω (by simp[Nat.testBit]),Ω (by simp[Nat.testBit]),Ω (by simp[Nat.testBit]),dj (l7 ((Ag.refl _ _).hp M9 none zq.1)) (l7 (zq.ag.hp M9 none zq.1)),trivial⟩,⟨Ω (by simp[Nat.testBit]),Ω (by simp[Nat.testBit]),Ω (by simp[Nat.testBit]),Ω (by simp[Nat.testBit]),trivial⟩,trivial⟩) ?_;have x3':=(zq.trans FE).trans GF;have AY:de n3 OF Ja:=JG;have FH:de n2 MK OF:=ny;have kA:Sm Bg [rest]:=Sm.cons (by simp only[Bg];omega) Sm.nil;refine Θ ⟨_,Eu rfl (bQ (l':=[v1]) ((AY n2 (by omega)).trans a4') U) U (bQ a5' rfl),?_⟩;have zW:=s.c4.1;have hb5:=s.c5.1;have OT:=s.co.1;have z1:=zq.1;have z2:=FE.1;have z3:=GF.1;have z0:=s.ext.1;refine hQ v1 (dd out) v3 (dd [rest]) Ja YI (((s.ext.trans x3').aj FH (by omega)).aj AY (by omega)) ?_ (rM g5) (by rw[pG,g7]) ?_ (rM kA) (by rw[pG];simp only[val];omega) (Or.inr (by rw[JF];show n.num<=n4.num;omega)) (Or.inr (by rw[q3'];show n.num<=M9.num;omega))
  ·have k1:v1.blk.num=n4.num:=by rw[JF];rfl
   exact((((OR.up z1).ext (FE.trans GF))).aj FH (Or.inr (by omega))).aj AY (Or.inr (by omega))
  ·have k3:v3.blk.num=M9.num:=by rw[q3'];rfl
   exact(((OS.up (by omega)).ext (Ext.refl _ _)).aj FH (Or.inr (by omega))).aj AY (Or.inr (by omega))
 ·rintro ex h' n' qt Nu hf;exact hf.elim
end
section
variable {C:Nat->Option bN}{h:Hf}{n:K}{Q:V->Hf->K->Prop}
abbrev Es(b8 b9 fT oE b12 ef:K)(i:Nat)(r:Env):Env:=
 (k8,.p b8 0)::(k9,.p b9 0)::(aA,.p fT 0)::(aE,.p oE 0)::(aF,.p b12 0)::(aG,.p ef 0)::(aP,.i .i64 (i:Nat))::r
section
variable {h0:Hf}{n0 b8 b9 fT oE b12 ef:K}{i:Nat}{vr:V}{r:List Nat}{size top next head R bb P:Nat}
theorem aiZ(hC:Cd C)(c9:Cl h0 n0 b9 [.i .i64 (size:Nat)] 3)(pd:Cl h0 n0 fT [.i .u64 (top:Nat)] 326)(FI:Cl h0 n0 oE [.i .u64 (next:Nat)] 326)(lG:Cl h0 n0 ef [vr] 271)(ir:aQ h0 n0 .u32 vr r)
 (hr:Sm Bg r)(oA:r.length<1000)(h2:2<=size)(eF:size<1000)(d:Dg Bg R bb head (r.getD (size - 2) 0) top next P)(hp:P*Bg<=bb)(mh:top<Bg){Q1:Ex->Env->Hf->K->Prop}
 (hQ:∀bY h' n' E',Ext h0 n0 h' n'->bY*bb<R+bb->R / bb<=bY->bY<Bg->dK (Es b8 b9 fT oE b12 ef i [(aM,.i .u64 (bY:Nat))]) E'->Q1 .normal E' h' n'):
 ∀(bY left:Nat) (h:Hf) (n:K),Ext h0 n0 h n->bY*top+left=head->R / bb<=bY->bY<=Bg+1->left<Bg->WC C Lp (Es b8 b9 fT oE b12 ef i [(aM,.i .u64 (bY:Nat)),(aV,.i .u64 (left:Nat))]) h n (blk 2 Q1):=by
 have q2:=hr.getD (by decide) (size - 2);have ub:=d.jj;have main:∀(m bY left:Nat) (h:Hf) (n:K),bY=m->Ext h0 n0 h n->bY*top+left=head->R / bb<=bY->bY<=Bg+1->left<Bg->WC C Lp (Es b8 b9 fT oE b12 ef i [(aM,.i .u64 (bY:Nat)),(aV,.i .u64 (left:Nat))]) h n (blk 2 Q1):=by
  intro m
  induction m with
  | zero=>
   intro bY left h n hm e hg hq FJ hl;subst hm;have d9:=c9.ext e;have d11:=FI.ext e;have d13:=lG.ext e;have GG:=ir.ext e;have GH:=hl;simp only[Bg]at q2 FJ hl ub;have tz:∀{Q:V->Hf->K->Prop},(∀h' n',Ext h n h' n'->Q (.i .u64 (r.getD (size - 2) 0:Nat)) h' n')->τ C (.f 298 [] []) [.a [vr],.i .i64 ((size - 2:Nat):Nat)] h n Q:=λhQ=>CH hC GG hr (by omega) hQ;refine aJ ?_;generalize oY:r.getD (size - 2) 0=l2 at*;refine ξ<|dh<|ao U<|Ey U U<|ao U<|bV U (by simp)<|ao U<|bV U (by simp)<|aD U (d11.ld U _) U (fK _ _)<|bV U (by simp)<|Ap U U ((show((0:Nat):Int)*(next:Int)=((0:Nat):Int) by omega)) ⟨by omega,by omega⟩<|bV U (by simp)<|ao U<|bV U (by simp)<|Ap U U ((show(left:Int)*1000000000=((left*1000000000:Nat):Int) by omega)) ⟨by omega,by omega⟩<|bV U (by simp)<|aD U (bQ d13.2 rfl) (mo (GG.below (χ _))) (mq (φ.da GG))<|bV U (by simp)<|aD U (d9.ld U _) U (fK _ _)<|bV U (by simp)<|Ck U U ((show(size:Int) - 2=((size - 2:Nat):Int) by omega)) ⟨by omega,by omega⟩<|bV U (by simp)<|cj U U<|tz <| λh1 n1 e1=>bV U (by simp)<|yo U U ⟨by omega,by omega⟩<|bV U (by simp)<|wQ U U<|vK U (by simp) U<|cG (⟨⟨Ω (by simp[Nat.testBit]),trivial⟩,⟨Ω (by simp[Nat.testBit]),trivial⟩,⟨dj (d11.ld U _) ((d11.ext e1).ld U _),trivial⟩,trivial⟩) ?_;refine ay U (by simp<;>omega)<|bM ?_;exact hQ 0 h1 n1 _ (e.trans e1) (d.done hg (by simp only[Bg];omega) (by omega) hp) hq (by simp only[Bg];omega) ⟨rfl,rfl,rfl,rfl,rfl,rfl,rfl,rfl,trivial⟩
  | succ m ih=>
   intro bY left h n hm e hg hq FJ hl;have d9:=c9.ext e;have d10:=pd.ext e;have d11:=FI.ext e;have d13:=lG.ext e;have GG:=ir.ext e;have tz:∀{Q:V->Hf->K->Prop},(∀h' n',Ext h n h' n'->Q (.i .u64 (r.getD (size - 2) 0:Nat)) h' n')->τ C (.f 298 [] []) [.a [vr],.i .i64 ((size - 2:Nat):Nat)] h n Q:=λhQ=>CH hC GG hr (by omega) hQ;have hmul:bY*next<=1000000001*1000000000:=xQ (by simp only[Bg]at FJ;omega) (by simp only[Bg]at ub;omega);have e5:(bY:Int)*(next:Int)=((bY*next:Nat):Int):=by simp
   generalize oY:r.getD (size - 2) 0=l2 at*;have go:∀(h1:Hf) (n1:K) (E:Env),Ext h n h1 n1->(Bg<=bY\/left*Bg+l2<bY*next)->dK (Es b8 b9 fT oE b12 ef i [(aM,.i .u64 (bY:Nat)),(aV,.i .u64 (left:Nat))]) E->WC C R8 E h1 n1 (sq C (.loop R9) (blk 2 Q1)):=by
    intro h1 n1 E e1 hc hE;refine dQ hE ?_;obtain⟨g1,g2⟩:=d.down hg hq hc;have zj:(bY - 1)*top+(left+top)=head:=by
     have:bY*top=(bY - 1)*top+top:=by rw[←xS];congr 1;omega
     omega
    have Nv:=FJ;have qT:=hl;have ai0:=mh;simp only[Bg]at Nv qT ai0;refine aC<|ζ<|γ U<|mO U U ((show(bY:Int) - 1=((bY - 1:Nat):Int) by omega)) ⟨by omega,by omega⟩<|γ U<|ε ?_;refine ζ<|γ U<|ν U ((d10.ext e1).ld U _)<|lz U U ((show(left:Int)+(top:Int)=((left+top:Nat):Int) by omega)) ⟨by omega,by omega⟩<|γ U<|ε ?_;refine ζ<|γ U<|fL U U<|ε ?_;by_cases hb:Bg<=left+top
    ·have ku:=hb;simp only[Bg]at ku;refine an U (by simp<;>omega)<|bM ?_;obtain⟨g3,g4⟩:=d.brk zj hb;exact hQ (bY - 1) h1 n1 _ (e.trans e1) (d.done zj g3 g4 hp) g1 g3 ⟨rfl,rfl,rfl,rfl,rfl,rfl,rfl,rfl,trivial⟩
    ·have ku:=hb;simp only[Bg]at ku;refine ay U (by simp<;>omega)<|ae ?_;exact Γ (ih (bY - 1) (left+top) h1 n1 (by omega) (e.trans e1) zj g1 (by omega) (by omega)) ⟨rfl,rfl,rfl,rfl,rfl,rfl,rfl,rfl,rfl,trivial⟩
   have Y1:=q2;have Nv:=FJ;have qT:=hl;have ai1:=ub;simp only[Bg]at Y1 Nv qT ai1;refine aJ ?_;by_cases hB:Bg<=bY
   ·have Y2:=hB;simp only[Bg]at Y2;refine ξ<|dh<|ao U<|Ey U U<|ao U<|cW U (by simp<;>omega)<|cW U (by simp<;>omega)<|cW U (by simp<;>omega)<|cW U (by simp<;>omega)<|cW U (by simp<;>omega)<|cW U (by simp<;>omega)<|cW U (by simp<;>omega)<|cW U (by simp<;>omega)<|cW U (by simp<;>omega)<|cW U (by simp<;>omega)<|cW U (by simp<;>omega)<|yp U (by simp<;>omega) U<|cG (by simp[AG,gP,jW,Nat.testBit]) ?_;exact an U U<|ae<|go h n _ (Ext.refl _ _) (Or.inl hB) ⟨rfl,rfl,rfl,rfl,rfl,rfl,rfl,rfl,rfl,trivial⟩
   ·have Y2:=hB;simp only[Bg]at Y2;refine ξ<|dh<|ao U<|Ey U U<|ao U<|bV U (by simp<;>omega)<|ao U<|bV U (by simp<;>omega)<|aD U (d11.ld U _) U (fK _ _)<|bV U (by simp<;>omega)<|Ap U U (e5) ⟨by omega,by omega⟩<|bV U (by simp<;>omega)<|ao U<|bV U (by simp<;>omega)<|Ap U U ((show(left:Int)*1000000000=((left*1000000000:Nat):Int) by omega)) ⟨by omega,by omega⟩<|bV U (by simp<;>omega)<|aD U (bQ d13.2 rfl) (mo (GG.below (χ _))) (mq (φ.da GG))<|bV U (by simp<;>omega)<|aD U (d9.ld U _) U (fK _ _)<|bV U (by simp<;>omega)<|Ck U U ((show(size:Int) - 2=((size - 2:Nat):Int) by omega)) ⟨by omega,by omega⟩<|bV U (by simp<;>omega)<|cj U U<|tz <| λh1 n1 e1=>bV U (by simp<;>omega)<|yo U U ⟨by omega,by omega⟩<|bV U (by simp<;>omega)<|wQ U U<|vK U (by simp<;>omega) U<|cG (⟨⟨Ω (by simp[Nat.testBit]),trivial⟩,⟨Ω (by simp[Nat.testBit]),trivial⟩,⟨dj (d11.ld U _) ((d11.ext e1).ld U _),trivial⟩,trivial⟩) ?_;by_cases hc:left*Bg+l2<bY*next
    ·have sW:=hc;simp only[Bg]at sW;exact an U (by simp<;>omega)<|ae<|go h1 n1 _ e1 (Or.inr hc) ⟨rfl,rfl,rfl,rfl,rfl,rfl,rfl,rfl,rfl,trivial⟩
    ·have sW:=hc;simp only[Bg]at sW;refine ay U (by simp<;>omega)<|bM ?_;exact hQ bY h1 n1 _ (e.trans e1) (d.done hg (by omega) (by omega) hp) hq (by omega) ⟨rfl,rfl,rfl,rfl,rfl,rfl,rfl,rfl,trivial⟩
 intro bY left h n e hg hq FJ hl;exact main bY bY left h n rfl e hg hq FJ hl
end
end
section
variable {C:Nat->Option bN}{h:Hf}{n:K}{Q:V->Hf->K->Prop}
structure Dv(h0:Hf)(n0:K)(h:Hf)(n bo b12 ef:K)(L:Nat)(vr:V)(r:List Nat):Prop where
 ext:Ext h0 n0 h n
 qJ:Cl h n b12 [.sl bo 0 L L] 269
 lG:Cl h n ef [vr] 271
 co:∃ds:List Nat,ds.length=L/\Cl h n bo (nC .u32 ds) 316
 ir:aQ h n .u32 vr r
 FK:eA Bg r
 sep:vr=.ns\/ef.num<vr.blk.num
def Kp(h:Hf)(n:K)(h':Hf)(n' bo ef:K):Prop:=n.num<=n'.num/\∀k:K,k.num<n.num->k.num≠bo.num->k.num≠ef.num->h' k=h k
theorem Kp.refl(h:Hf)(n bo ef:K):Kp h n h n bo ef:=⟨χ _,λ_ _ _ _=>rfl⟩
theorem Kp.ext{h h1 h2:Hf}{n n1 n2 bo ef:K}(a:Kp h n h1 n1 bo ef)(e:Ext h1 n1 h2 n2):Kp h n h2 n2 bo ef:=⟨iH a.1 e.1,λk h1 h2 h3=>by rw[e.2 k (fk h1 a.1)];exact a.2 k h1 h2 h3⟩
theorem Kp.aj{h h1 h2:Hf}{n n1 bo ef b:K}(a:Kp h n h1 n1 bo ef)(e:de b h1 h2)(hb:b.num=bo.num\/b.num=ef.num\/n.num<=b.num):Kp h n h2 n1 bo ef:=⟨a.1,λk h1 h2 h3=>by rw[e k (by omega)];exact a.2 k h1 h2 h3⟩
theorem aQ.ai2{h:Hf}{n:K}{v:V}{x:Nat}{r:List Nat}(a:φ h n 1 v (1+r.length) ([.i .u32 (x:Nat)]++nC .u32 r)):aQ h n .u32 v (x::r):=by show φ h n 1 v (r.length+1) _;rw[rm];exact a
section
variable {h0:Hf}{n0 b8 b9 fT oE b12 ef bo:K}{i L:Nat}{vb:V}{b:List Nat}{size top next:Nat}
theorem WN(hC:Cd C)(ho:n0.num<=bo.num)(OT:bo.num<b12.num)(sy:b12.num<ef.num){hs:Hf}{ns:K}{vr:V}{r p:List Nat}{b19:K}{vp:V}{g:Nat}(s:Dv h0 n0 h n bo b12 ef L vr r)(hk:Kp hs ns h n bo ef)(D4:ef.num<ns.num)
 (JH:Cl h n b19 [vp] 271)(ip:aQ h n .u32 vp p)(np:eA Bg p)(oA:r.length<1000)(tN:p.length<1000)(hg:g<Bg)(hle:val Bg p<=val Bg r){Q1:Ex->Env->Hf->K->Prop}
 (hQ:∀mX r' h' n' E',Dv h0 n0 h' n' bo b12 ef L mX r'->Kp hs ns h' n' bo ef->(mX=.ns\/ns.num<=mX.blk.num)->val Bg r'=val Bg r - val Bg p->Q1 .normal E' h' n'):
 WC C Sa [(aF,.p b12 0),(aG,.p ef 0),(aP,.i .i64 (i:Nat)),(aM,.i .u64 (g:Nat)),(bf,.p b19 0)] h n Q1:=by
 have OI:=hg;simp only[Bg]at OI;have jU:=s.lG.1;have sM:=hk.1;refine ζ<|ν U (bQ s.lG.2 rfl)<|ν U (bQ JH.2 rfl)<|ak U U<|WI hC oA tN s.FK.1 np s.ir ip hle <| λv1 r1 h1 n1 e1 i1 nr1 vl1 WQ=>bL U U ((s.lG.ext e1).2) (dW rfl rfl (fh i1.one)) <| λh2 a2 b2=>ε ?_;have Nw:de ef h1 h2:=b2;have qJ:=(s.qJ.ext e1).aj Nw (by omega);have x2:Ext h0 n0 h2 n1:=(s.ext.trans e1).aj Nw (by omega);have k2:Kp hs ns h2 n1 bo ef:=(hk.ext e1).aj Nw (Or.inr (Or.inl U));obtain⟨ds,ug,co⟩:=s.co;have Y3:=(co.ext e1).aj Nw (by omega);have sep:v1=.ns\/ef.num<v1.blk.num:=WQ.imp id λh=>by omega
 have i2:aQ h2 n1 .u32 v1 r1:=i1.aj Nw (sep.imp id λh=>by omega);have io:aQ h2 n1 .u32 (.sl bo 0 L L) ds:=Y3.qC ug;have ce1:=e1.1;have sp1:v1=.ns\/ns.num<=v1.blk.num:=WQ.imp id λh=>by omega
 refine ζ<|γ U<|ν U (qJ.ld U _)<|az U (io)<|aO U U<|ε ?_;have s2:Dv h0 n0 h2 n1 bo b12 ef L v1 r1:=⟨x2,qJ,⟨by omega,a2⟩,⟨ds,ug,Y3⟩,i2,nr1,sep⟩;by_cases hi:i<ds.length
 ·refine an U (by simp<;>omega) ?_;refine aL<|ν U (qJ.ld U _)<|γ U<|γ U<|pB U ⟨by omega,by omega⟩<|bj U U (io) (hi)<|bL U U (Y3.2) (yt hi _ (by simp[V.off])) <| λh3 a3 b3=>ε ?_;have xf:de bo h2 h3:=b3;refine hQ v1 r1 h3 n1 _ ⟨x2.aj xf ho,qJ.aj xf (by omega),Cl.aj (n:=n1) ⟨by omega,a2⟩ xf (by omega),⟨_,by rw[mD];exact ug,⟨by omega,a3⟩⟩,i2.aj xf (sep.imp id λh=>by omega),nr1,sep⟩ (k2.aj xf (Or.inl U)) sp1 vl1
 ·exact ay U (by simp<;>omega)<|ae (hQ v1 r1 h2 n1 _ s2 k2 sp1 vl1)
theorem ai7(hC:Cd C)(ho:n0.num<=bo.num)(OT:bo.num<b12.num)(sy:b12.num<ef.num)
 (c8:Cl h0 n0 b8 [vb] 271)(ib:aQ h0 n0 .u32 vb b)(nb:eA Bg b)(hK:b.length=size)(kz:2<=size)(eF:size<500)(c9:Cl h0 n0 b9 [.i .i64 (size:Nat)] 3)(pd:Cl h0 n0 fT [.i .u64 (b.getD (size - 1) 0:Nat)] 326)(FI:Cl h0 n0 oE [.i .u64 (b.getD (size - 2) 0:Nat)] 326)
 (mh:Bg<=2*b.getD (size - 1) 0){vr:V}{r:List Nat}(s:Dv h0 n0 h n bo b12 ef L vr r)(hr:val Bg r<val Bg b){x:Nat}(hx:x<Bg){Q1:Ex->Env->Hf->K->Prop}
 (hQ:∀mX r' h' n' E',Dv h0 n0 h' n' bo b12 ef L mX r'->Kp h n h' n' bo ef->(mX=.ns\/n.num<=mX.blk.num)->val Bg r'=(x+Bg*val Bg r) % val Bg b->Q1 .normal E' h' n'):
 WC C Sb (Es b8 b9 fT oE b12 ef i [(aT,.i .u32 (x:Nat))]) h n Q1:=by
 have oA:r.length<=size:=by rw[←hK];exact pH s.FK.2 nb.1 (by decide) (fY hr)
 have ua:0<val Bg b:=by omega
 have jU:=s.lG.1;have auC:=s.ext.1;have jV:=hx;simp only[Bg]at jV;refine aC<|Kj<|ζ<|γ U<|lu (rfl) <| λh1 n1 dS a1 e1=>ρ U<|ν U ((s.lG.ext e1).ld U _)<|RB U (φ.whole (len:=1) (by omega) a1 rfl) U ((s.ir.ext e1)) (by omega) (by omega) (by omega) <| λv2 h2 n2 i2 e2 iL fM=>ak U U<|yN hC (χ _) (aQ.ai2 i2) (by simp<;>omega) <| λv3 h3 n3 e3 i3 y8 og=>mc (vT rfl i3.cells i3.one)<|bL U U ((((s.lG.ext e1).ext e2).ext e3).2) (dW rfl rfl (fh i3.one)) <| λh4 a4 b4=>ε ?_;have ny:de ef h3 h4:=b4;have kD:=(e1.trans e2).trans e3;have z13:=kD.1;have sR:Sm Bg (x::r):=Sm.cons hx s.FK.1;have nR:eA Bg (dd (x::r)):=rM sR;have vR:val Bg (dd (x::r))=x+Bg*val Bg r:=by rw[pG];rfl
 have lR:(dd (x::r)).length<=size+1:=by have:=AM (x::r);simp only[fH]at this;omega
 generalize dd (x::r)=R at*;have hRb:val Bg R<Bg*val Bg b:=by rw[vR];have:Bg*(val Bg r+1)<=Bg*val Bg b:=rh _ hr;rw[gl]at this;omega
 have v3b:v3.blk.num=n.num\/v3.blk.num=n1.num:=by
  rw[y8];rcases fM with h | h
  ·exact Or.inl (by rw[h])
  ·exact Or.inr (by rw[h])
 have x4:Ext h0 n0 h4 n3:=(s.ext.trans kD).aj ny (by omega);have k4':Kp h n h4 n3 bo ef:=((Kp.refl h n bo ef).ext kD).aj ny (Or.inr (Or.inl U));have i4:aQ h4 n3 .u32 v3 R:=(i3.up e3.1).aj ny (Or.inr (by omega));have lG:Cl h4 n3 ef [v3] 271:=⟨by omega,a4⟩;obtain⟨ds,ug,co⟩:=s.co;have s4:Dv h0 n0 h4 n3 bo b12 ef L v3 R:=⟨x4,(s.qJ.ext kD).aj ny (by omega),lG,⟨ds,ug,(co.ext kD).aj ny (by omega)⟩,i4,nR,Or.inr (by omega)⟩;clear a1 i2 a4 b4;have l9:∀{h' n'},Ext h4 n3 h' n'->aX h' false 1 (.p b9 0)=some (.i .i64 (size:Nat)):=λe=>(c9.ext (x4.trans e)).ld U _;have OU:∀{h' n'},Ext h4 n3 h' n'->aX h' true 1 (.p ef 0)=some (.a [v3]):=λe=>bQ (lG.ext e).2 rfl;have q2:R.getD size 0<Bg:=nR.1.getD (by decide) _;have q1:R.getD (size - 1) 0<Bg:=nR.1.getD (by decide) _;have dg:=afl (B:=Bg) (by decide) nb.1 hK kz mh nR.1 hRb;have hP:=VB (B:=Bg) (by decide) nb.1 hK kz (by simp only[Bg]at mh;omega);have II:=dg.first
 have htb:b.getD (size - 1) 0<Bg:=nb.1.getD (by decide) _;have WR:∀{Q:V->Hf->K->Prop},(∀h' n',Ext h4 n3 h' n'->Q (.i .u64 (R.getD size 0:Nat)) h' n')->τ C (.f 298 [] []) [.a [v3],.i .i64 (size:Nat)] h4 n3 Q:=λhQ=>CH hC i4 nR.1 (by omega) hQ;have WS:∀{Q:V->Hf->K->Prop} {h' n'},Ext h4 n3 h' n'->(∀Be nU,Ext h' n' Be nU->Q (.i .u64 (R.getD (size - 1) 0:Nat)) Be nU)->τ C (.f 298 [] []) [.a [v3],.i .i64 ((size - 1:Nat):Nat)] h' n' Q:=λe hQ=>CH hC (i4.ext e) nR.1 (by omega) hQ;have Y4:0<b.getD (size - 1) 0:=by simp only[Bg]at mh;omega
 generalize hh:R.getD size 0*Bg+R.getD (size - 1) 0=head at*;generalize R.getD size 0=r2 at*;generalize R.getD (size - 1) 0=r1 at*;have Y1:=q2;have JF:=q1;have hh':=hh;have Y5:=II.2;simp only[Bg]at Y1 JF hh' Y5;refine dh<|aD U (OU (Ext.refl _ _)) (mo (i4.below (χ _))) (mq (φ.da i4))<|aD U (l9 (Ext.refl _ _)) U (fK _ _)<|cj U U<|WR <| λh5 n5 e5=>Ap U U ((show(r2:Int)*1000000000=((r2*1000000000:Nat):Int) by omega)) ⟨by omega,by omega⟩<|aD U (OU e5) (mo ((i4.ext e5).below (χ _))) (mq (φ.da i4))<|aD U (l9 e5) U (fK _ _)<|Ck U U ((show(size:Int) - 1=((size - 1:Nat):Int) by omega)) ⟨by omega,by omega⟩<|cj U U<|WS e5 <| λh6 n6 e6=>ED U U ((show((r2*1000000000:Nat):Int)+(r1:Int)=((head:Nat):Int) by omega)) ⟨by omega,by omega⟩<|ao U<|cG (⟨⟨Ω (by simp[Nat.testBit]),dj (l9 (Ext.refl _ _)) (l9 e5),trivial⟩,⟨Ω (by simp[Nat.testBit]),dj (OU (Ext.refl _ _)) (OU e5),trivial⟩,⟨Ω (by simp[Nat.testBit]),Ω (by simp[Nat.testBit]),trivial⟩,⟨Ω (by simp[Nat.testBit]),Ω (by simp[Nat.testBit]),trivial⟩,trivial⟩) ?_;have xC:Ext h4 n3 h6 n6:=e5.trans e6;have x6:=x4.trans xC;have k6':Kp h n h6 n6 bo ef:=k4'.ext xC;clear e5 e6 WS WR;have d10:=pd.ext x6;have Dh:(0:Int)<=((head / b.getD (size - 1) 0:Nat):Int):=sE _;have IH:((head / b.getD (size - 1) 0:Nat):Int)<=18446744073709551615:=by generalize head / b.getD (size - 1) 0=y at Y5 ⊢;omega
 refine dh<|ao U<|aD U (d10.ld U _) U (fK _ _)<|Rr U U (Y4) (⟨Dh,IH⟩)<|ao U<|aD U (d10.ld U _) U (fK _ _)<|acE U U (Y4)<|ao U<|ao U<|cG (by simp[AG,gP,jW,Nat.testBit]) ?_;refine ξ<|ae<|ξ<|aC ?_;have i6:=i4.ext xC;have ai9:=lG.ext xC;have GH:head % b.getD (size - 1) 0<Bg:=Nat.lt_trans (lS _ Y4) htb;refine Γ (aiZ hC (c9.ext x6) d10 (FI.ext x6) ai9 i6 nR.1 (by omega) kz (by omega) dg hP htb (b8:=b8) (b12:=b12) (i:=i) ?_ (head / b.getD (size - 1) 0) (head % b.getD (size - 1) 0) h6 n6 (Ext.refl _ _) (by rw[dP];exact xO _ _) II.1 II.2 GH) ⟨rfl,rfl,rfl,rfl,rfl,rfl,rfl,rfl,rfl,trivial⟩;intro g h7 n7 E7 e7 Fp MD Y6 hE;refine dQ hE ?_;clear hE Dh IH GH II Y5 dg hP;have x7:=x6.trans e7;have aja:=Y6;simp only[Bg]at aja;have d8:=c8.ext x7;have Dn:=ib.ext x7;have e47:=xC.trans e7;have l8:∀{H:Hf},Ag n7 h7 H->aX H true 1 (.p b8 0)=some (.a [vb]):=λag=>bQ (d8.ext (ag.x (χ _))).2 rfl;refine dh<|aD U (l8 (Ag.refl _ _)) (mo (Dn.below (χ _))) (mq (φ.da Dn))<|ao U<|vL U ⟨by omega,by omega⟩<|rK (rfl) <| λh8 n8 Gp a8 e8=>cj U U<|yN hC (l:=[g]) (χ _) (φ.whole (len:=1) (by omega) a8 rfl) (by simp) <| λv9 h9 n9 e9 i9 Y7 xB=>wR (vT rfl i9.cells i9.one)<|cj U U<|Nt hC (by omega) (by have:=AM [g];simp only[fH,p9]at this;omega) nb.1 (Vs (Sm.cons Y6 Sm.nil)) ((Dn.ext e8).ext e9) (i9.up e9.1) <| λv10 OV kC eT oT i10 FL ajb ajc=>sZ <| λmN tA auD Gf uf=>fV U U ((CG (by have:=e9.1;have:=oT.1;omega)).trans Gf) (dW rfl rfl (fh i10.one)) <| λjO Js b12=>cG (⟨⟨Ω (by simp[Nat.testBit]),Ω (by simp[Nat.testBit]),dj (l8 ((e8.ag.hp eT none (by have:=e9.1;have:=oT.1;omega)).hp n7 none (χ _))) (l8 (((e8.trans e9).ag.hp eT none (by have:=e9.1;have:=oT.1;omega)).hp n7 none (χ _))),trivial⟩,trivial⟩) ?_;have z8:=e8.1;have z9:=e9.1;have z10:=oT.1;have z11:eT.num<=tA.num:=by omega
 have WT:de eT (hp mN n7 (kC n7)) jO:=b12;have WU:Ext (hp kC n7 none) eT mN tA:=uf;have ajd:Ag n7 h7 jO:=((((((e8.trans e9).trans oT).ag.hp n7 none (χ _)).ext WU (by omega)).hp n7 (kC n7) (χ _)).aj WT (by omega));have FM:Ext h7 n7 jO tA:=ajd.x (by omega);have WV:v10=.ns\/v10.blk.num≠n7.num:=ajc.imp id λh=>by omega
 have i12:aQ jO tA .u32 v10 OV:=(((i10.aj (lj kC n7 none) WV).ext WU).aj (lj mN n7 _) WV).aj WT (i10.zQ.imp id λh=>by omega);have JH:Cl jO tA eT [v10] 271:=⟨by omega,Js⟩;have vp:val Bg OV=g*val Bg b:=by rw[ajb,pG];simp only[val,kE,kF];rw[dP]
 clear a8 Gf Js b12 i10 i9;have FN:=e47.trans FM;have x12:=x7.trans FM;have qZ:Dv h0 n0 jO tA bo b12 ef L v3 R:=⟨x12,s4.qJ.ext FN,s4.lG.ext FN,by obtain⟨ds,g1,g2⟩:=s4.co;exact⟨ds,g1,g2.ext FN⟩,s4.ir.ext FN,nR,s4.sep⟩;have ajf:Kp h n jO tA bo ef:=(k6'.ext e7).ext FM;have tN:OV.length<=size+1:=by apply Iy (B:=Bg) FL.2 (by decide);rw[vp,gI,←hK];have h1:=pF nb.1;have h3:g*val Bg b<=Bg*val Bg b:=gX _ (by omega);have h4:Bg*val Bg b<Bg*Bg ^ b.length:=GQ h1 (by decide);rw[dP (Bg ^ b.length)];omega
 have WX:∀g',g'*val Bg b<=val Bg R->val Bg R<g'*val Bg b+val Bg b->val Bg R - g'*val Bg b=(x+Bg*val Bg r) % val Bg b:=λg' h1 h2=>by rw[←vR];exact Vx ua h1 h2
 have tn:val Bg R<(g+1)*val Bg b:=fk ((Bp ua).1 (Nat.lt_succ_of_le MD)) (χ _);rw[iJ,Nat.one_mul]at tn;refine ξ<|ζ<|ν U (bQ JH.2 rfl)<|ν U (bQ qZ.lG.2 rfl)<|ak U U<|WG hC (by omega) (by omega) FL nR i12 qZ.ir <| λsA GI lH=>cS U U<|ε ?_;rw[vp];have FO:=FN.trans lH;have s13:Dv h0 n0 sA GI bo b12 ef L v3 R:=⟨x12.trans lH,s4.qJ.ext FO,s4.lG.ext FO,by obtain⟨ds,g1,g2⟩:=s4.co;exact⟨ds,g1,g2.ext FO⟩,s4.ir.ext FO,nR,s4.sep⟩;have WY:Kp h n sA GI bo ef:=ajf.ext lH;by_cases zj:val Bg R<g*val Bg b
 ·have tu:gr (g*val Bg b) (val Bg R)=1:=by unfold gr;rw[Ξ (by omega),au zj]
  rw[tu];have Jp:0<g:=by
   rcases Nat.eq_zero_or_pos g with h | h
   ·rw[h,Nat.zero_mul]at zj;omega
   ·exact h
  have FJ:(g - 1)*val Bg b+val Bg b=g*val Bg b:=by rw[←xS];congr 1;omega
  refine an U (by simp) ?_;refine ζ<|γ U<|mO U U ((show(g:Int) - 1=((g - 1:Nat):Int) by omega)) ⟨by omega,by omega⟩<|γ U<|ε ?_;have d8':=(d8.ext FM).ext lH;refine aL<|ν U (bQ (JH.ext lH).2 rfl)<|ν U (bQ d8'.2 rfl)<|ak U U<|WI hC (by omega) (by omega) FL.1 nb (i12.ext lH) ((Dn.ext FM).ext lH) (by rw[vp];omega) <| λv14 Y8 Dp OW ue i14 WZ ajg ajh=>bL U U (((JH.ext lH).ext ue).2) (dW rfl rfl (fh i14.one)) <| λuj Y9 b15=>ε ?_;have FP:de eT Dp uj:=b15;have auE:=lH.1;have z14:=ue.1;have zn:n.num<=eT.num:=by have:=xC.1;have:=e7.1;omega
  have FQ:Ext h4 n3 uj OW:=(FO.trans ue).aj FP (by have:=xC.1;have:=e7.1;omega);have s15:Dv h0 n0 uj OW bo b12 ef L v3 R:=⟨x4.trans FQ,s4.qJ.ext FQ,s4.lG.ext FQ,by obtain⟨ds,g1,g2⟩:=s4.co;exact⟨ds,g1,g2.ext FQ⟩,s4.ir.ext FQ,nR,s4.sep⟩;have aji:Kp h n uj OW bo ef:=(WY.ext ue).aj FP (Or.inr (Or.inr (by omega)));have i15:aQ uj OW .u32 v14 Y8:=i14.aj FP (ajh.imp id λh=>by omega);rw[vp]at ajg;have Nx:val Bg Y8=(g - 1)*val Bg b:=by omega
  have auF:Y8.length<=OV.length:=pH WZ.2 FL.1 (by decide) (by rw[Nx,vp];omega);refine Γ (WN hC ho OT sy (i:=i) (g:=g - 1) s15 aji (by omega) ⟨by omega,Y9⟩ i15 WZ (by omega) (by omega) (by omega) (by rw[Nx];omega) ?_) ⟨rfl,rfl,rfl,rfl,rfl,trivial⟩;intro mX r' h' n' E' s' k' Ny nW;refine hQ mX r' h' n' E' s' k' Ny ?_;rw[nW,Nx];exact WX _ (by omega) (by omega)
 ·have tu:¬ 0<gr (g*val Bg b) (val Bg R):=by unfold gr;split<;>(try split)<;>omega
  refine ay U (by simpa using tu)<|ae ?_;refine Γ (WN hC ho OT sy (i:=i) (g:=g) s13 WY (by omega) (JH.ext lH) (i12.ext lH) FL (by omega) (by omega) Y6 (by rw[vp];omega) ?_) ⟨rfl,rfl,rfl,rfl,rfl,trivial⟩;intro mX r' h' n' E' s' k' Ny nW;refine hQ mX r' h' n' E' s' k' Ny ?_;rw[nW,vp];exact WX _ (by omega) (by omega)
end
end
section
variable {C:Nat->Option bN}{h:Hf}{n:K}{Q:V->Hf->K->Prop}
section
variable {hs:Hf}{ns b2 b4 b5 b6 b7 b8 b9 fT oE b12 ef bo:K}{L:Nat}
theorem ajj(hC:Cd C){vs vr:V}{s:Nat}{r ds:List Nat}(x:Ext hs ns h n)(zW:ns.num<=b4.num)(JE:b4.num<b5.num)(JI:0<s)(JJ:s<Bg)
 (c4:Cl h n b4 [.ns] 271)(c5:Cl h n b5 [.ns] 271)(c6:Cl h n b6 [vs] 271)(is:aQ h n .u32 vs [s])(qJ:Cl h n b12 [.sl bo 0 L L] 269)(co:Cl h n bo (nC .u32 ds) 316)(ug:ds.length=L)(hL:L<2000)(Dc:b5.num<bo.num)
 (lG:Cl h n ef [vr] 271)(ir:aQ h n .u32 vr r)(nr:eA Bg r)(oA:r.length<1000)
 (hQ:∀vq q v2 r2 h' n',Ext hs ns h' n'->aQ h' n' .u32 vq q->aQ h' n' .u32 v2 r2->eA Bg r2->val Bg r2=val Bg r / s->(v2=.ns\/ns.num<=v2.blk.num)->Q (.u [.a [vq],.a [v2]]) h' n'):
 WC C Sc [(k4,.p b4 0),(k5,.p b5 0),(k6,.p b6 0),(aF,.p b12 0),(aG,.p ef 0)] h n (fq [.cell k4 true 1,.cell k5 true 1] Q):=by
 have h0:0<([s]:List Nat).length:=by simp
 have z4:=c4.1;have z5:=c5.1;have zo:=co.1;have zx:=x.1;refine dh<|aD U (bQ lG.2 rfl) (mo (ir.below (χ _))) (mq (φ.da ir))<|bX U<|aD U (c6.ld U _) (is.below (χ _)) (φ.da is)<|cX U U (is) (h0)<|aD U (is.get h0 _) U (fK _ _)<|cj U U<|WK hC oA nr.1 JI JJ ir <| λv1 q1 v2 q2 h1 n1 e1 i1 nq1 vq1 i2 nq2 vq2 s1 s2=>ao U<|HN U U<|HN U U<|sZ <| λh2 n2 iL a2 e2=>sZ <| λh3 n3 og a3 e3=>fV U U ((fR h3 n1 (h2 n1)).trans a2) (dW rfl rfl (fh i1.one)) <| λh4 a4 ny=>fV U U ((ny n2 (by omega)).trans ((CG (by omega)).trans a3)) (dW rfl rfl (fh i2.one)) <| λh5 a5 JG=>cG (⟨⟨Ω (by simp[Nat.testBit]),Ω (by simp[Nat.testBit]),Ω (by simp[Nat.testBit]),trivial⟩,⟨Ω (by simp[Nat.testBit]),Ω (by simp[Nat.testBit]),Ω (by simp[Nat.testBit]),trivial⟩,⟨Ω (by simp[Nat.testBit]),Ω (by simp[Nat.testBit]),Ω (by simp[Nat.testBit]),trivial⟩,trivial⟩) ?_;have FH:de n1 (hp h3 n1 (h2 n1)) h4:=ny;have AY:de n2 h4 h5:=JG;have GF:Ext (hp h2 n1 none) n2 h3 n3:=e3;have ag5:Ag n1 h1 h5:=(((((e2.ag.hp n1 none (χ _)).ext GF (by omega)).hp n1 (h2 n1) (χ _)).aj FH (χ _)).aj AY (by omega));have lN:Ext h1 n1 h5 n3:=ag5.x (by omega);have i15:=i1.ext lN;have c20:Cl h5 n3 n1 [v1] 271:=⟨by omega,(AY n1 (by omega)).trans a4⟩;have e5:=e1.trans lN;have d4:=c4.ext e5;have d5:=c5.ext e5;have d12:=qJ.ext e5;have do':=co.ext e5;have io:aQ h5 n3 .u32 (.sl bo 0 L L) ds:=do'.qC ug;clear a2 a3 a4 a5 e2 e3 ny JG i2;have x5:=x.trans e5;have OX:∀{H:Hf},Ag n3 h5 H->aX H true 1 (.p n1 0)=some (.a [v1]):=λag=>bQ (c20.ext (ag.x (χ _))).2 rfl;have zz:=e5.1;have z15:=lN.1;refine dh<|aD U (d12.ld U _) (io.below (χ _)) (φ.da io)<|cj U U<|yN hC (χ _) io (by omega) <| λv6 h6 n6 e6 i6 hb6 hs6=>wR (vT rfl i6.cells i6.one)<|aD U (OX e6.ag) (mo ((i15.ext e6).below (χ _))) (mq (φ.da i15))<|fV U U ((d4.ext e6).2) (dW rfl rfl (fh i6.one)) <| λh7 a7 qF=>fV U U ((Cl.aj (n:=n6) (d5.ext e6) qF (by omega)).2) (dW rfl rfl (fh i15.one)) <| λh8 a8 tC=>cG (⟨⟨Ω (by simp[Nat.testBit]),dj (OX e6.ag) (bQ ((qF n1 (by have:=e1.1;omega)).trans (c20.ext e6).2) U),dj (OX (Ag.refl _ _)) (OX e6.ag),trivial⟩,⟨Ω (by simp[Nat.testBit]),Ω (by simp[Nat.testBit]),Ω (by simp[Nat.testBit]),trivial⟩,trivial⟩) ?_;have NA:de b4 h6 h7:=qF;have CI:de b5 h7 h8:=tC;refine Θ ⟨_,Eu rfl (bQ (l':=[v6]) ((CI b4 (by omega)).trans a7) U) U (bQ a8 rfl),?_⟩;have k6:v6.blk.num=bo.num:=by rw[hb6];rfl
 have z1:=e1.1;have z6:=e6.1;refine hQ v6 (dd ds) v1 q1 h8 n6 (((x5.trans e6).aj NA (by omega)).aj CI (by omega)) ?_ ?_ nq1 vq1 (s1.imp id λh=>by omega)
 ·exact((i6.up z6).aj NA (Or.inr (by omega))).aj CI (Or.inr (by omega))
 ·exact((i15.ext e6).aj NA (s1.imp id λh=>by omega)).aj CI (s1.imp id λh=>by omega)
theorem ajn(hC:Cd C){va vs vA vB:V}{a A B ss:List Nat}{s size:Nat}(x:Ext hs ns h n)(zW:ns.num<=b4.num)(JE:b4.num<b5.num)(JI:0<s)(JJ:s<Bg)
 (c2:Cl h n b2 [va] 271)(ia:aQ h n .u32 va a)(fG:a.length<900)(c4:Cl h n b4 [.ns] 271)(c5:Cl h n b5 [.ns] 271)(c6:Cl h n b6 [vs] 271)(is:aQ h n .u32 vs [s])
 (c7:Cl h n b7 [vA] 271)(iA:aQ h n .u32 vA A)(nA:Sm Bg A)(hlA:A.length<1000)
 (c8:Cl h n b8 [vB] 271)(iB:aQ h n .u32 vB B)(nB:eA Bg B)(GH:B.length=size)(kz:2<=size)(eF:size<500)(c9:Cl h n b9 [.i .i64 (size:Nat)] 3)(pd:Cl h n fT [.i .u64 (B.getD (size - 1) 0:Nat)] 326)(FI:Cl h n oE [.i .u64 (B.getD (size - 2) 0:Nat)] 326)
 (mh:Bg<=2*B.getD (size - 1) 0)
 (hQ:∀vq q v2 r2 h' n',Ext hs ns h' n'->aQ h' n' .u32 vq q->aQ h' n' .u32 v2 r2->eA Bg r2->val Bg r2=val Bg A % val Bg B / s->(v2=.ns\/ns.num<=v2.blk.num)->Q (.u [.a [vq],.a [v2]]) h' n'):
 WC C Sd [(k2,.p b2 0),(k4,.p b4 0),(k5,.p b5 0),(k6,.p b6 0),(k7,.p b7 0),(k8,.p b8 0),(k9,.p b9 0),(aA,.p fT 0),(aE,.p oE 0)] h n (fq [.cell k4 true 1,.cell k5 true 1] Q):=by
 have ua:0<val Bg B:=by have:=VB (B:=Bg) (by decide) nB.1 GH kz (by simp only[Bg]at mh;omega);have h2:0<Bg ^ (size - 2)*Bg:=Nat.mul_pos (Nat.pow_pos (by decide)) (by decide);omega
 refine ζ<|ρ U<|ν U (c2.ld U _)<|az U (ia)<|lz U U ((show(a.length:Int)+1=((a.length+1:Nat):Int) by omega)) ⟨by omega,by omega⟩<|wS U U (by omega) (by omega) <| λh1 n1 dS a1 e1=>du <| λh2 n2 iL a2 e2=>bL U U (a2) (rfl) <| λh3 a3 b3=>ε ?_;rw[Ao]at a1;have x3:Ext h n h3 n2:=(e1.trans e2).aj b3 (by omega);have co:Cl h3 n2 n (nC .u32 (List.replicate (a.length+1) 0)) 316:=Cl.aj (n:=n2) (Cl.ext ⟨by omega,a1⟩ e2) b3 (by omega);refine ζ<|mc U<|du <| λh4 n4 wj a4 e4=>bL U U (a4) (rfl) <| λh5 a5 JG=>ε ?_;have Za:Ext h3 n2 h5 n4:=e4.aj JG (χ _);have x5:=x3.trans Za;have qJ:Cl h5 n4 n1 [.sl n 0 (a.length+1) (a.length+1)] 269:=Cl.ext ⟨by omega,a3⟩ Za;have dv:Dv h n h5 n4 n n1 n2 (a.length+1) .ns []:=⟨x5,qJ,⟨by omega,a5⟩,⟨_,by simp,co.ext Za⟩,aQ.nil,eA.nil,Or.inl U⟩;have d7:=c7.ext x5;have iA5:=iA.ext x5;refine ξ<|ζ<|ρ U<|ν U (d7.ld U _)<|ak U U<|Nq hC iA5 (by omega) ?_;intro bb e h6 n6 e6 a6 qU fM it;refine ε ?_;have y6:=e6.1;have zx:=x.1;have OY:Dv h n h6 n6 n n1 n2 (a.length+1) .ns []:=⟨dv.ext.trans e6,dv.qJ.ext e6,dv.lG.ext e6,by obtain⟨ds,g1,g2⟩:=dv.co;exact⟨ds,g1,g2.ext e6⟩,aQ.nil,eA.nil,Or.inl U⟩;let I:Nat->Hf->K->Prop:=λj h' n'=>(bb.num<n'.num/\h' bb=some (.c [vA] e 0))/\∃vr r,Dv h n h' n' n n1 n2 (a.length+1) vr r/\(vr=.ns\/n6.num<vr.blk.num)/\val Bg r=val Bg (A.drop (A.length - j)) % val Bg B;have ajo:∀{h1 m1 h2 m2 vr r},Dv h n h1 m1 n n1 n2 (a.length+1) vr r->Ext h1 m1 h2 m2->Dv h n h2 m2 n n1 n2 (a.length+1) vr r:=λs e=>⟨s.ext.trans e,s.qJ.ext e,s.lG.ext e,by obtain⟨ds,g1,g2⟩:=s.co;exact⟨ds,g1,g2.ext e⟩,s.ir.ext e,s.FK,s.sep⟩;refine aC<|An U it I (λ_ _ _=>False) ?_ ?_ ?_ ?_ ?_ ?_ ?_ ?_
 ·rintro j h1 m1 h' n' ⟨⟨g2,g3⟩,vr,r,g4,gs,g5⟩ ex;exact⟨⟨fk g2 ex.1,by rw[ex.2 _ g2];exact g3⟩,vr,r,ajo g4 ex,gs,g5⟩
 ·rintro j h1 m1 h' ⟨⟨g2,g3⟩,vr,r,g4,gs,g5⟩ bt;refine⟨⟨g2,by rw[bt _ (by omega)];exact g3⟩,vr,r,⟨g4.ext.aj bt (by omega),g4.qJ.aj bt (by omega),g4.lG.aj bt (by omega),by obtain⟨ds,f1,f2⟩:=g4.co;exact⟨ds,f1,f2.aj bt (by omega)⟩,g4.ir.aj bt (gs.imp id λh=>by omega),g4.FK,g4.sep⟩,gs,g5⟩
 ·rintro j h1 m1 ⟨g2,vr,r,g4,_⟩;exact⟨g2.1,g2.2,iA.ext g4.ext⟩
 ·intro j hj;rw[rN];rfl
 ·intro h' bt;have Nl:n6.succ.num=n6.num+1:=K.fQ n6;refine⟨⟨by omega,by rw[bt _ (by omega)];exact a6⟩,.ns,[],⟨(OY.ext.aj bt (by omega)).succ,(OY.qJ.aj bt (by omega)).up (by omega),(OY.lG.aj bt (by omega)).up (by omega),by obtain⟨ds,f1,f2⟩:=OY.co;exact⟨ds,f1,(f2.aj bt (by omega)).up (by omega)⟩,aQ.nil,eA.nil,Or.inl U⟩,Or.inl U,?_⟩;rw[qb,gY];simp[val]
 ·rintro j hj h7 n7 E1 xA ⟨⟨g2,g3⟩,vr,r,g4,gs,g5⟩ jb;have eN:j<A.length:=by rw[oM]at hj;exact hj
  rw[rN]at jb;simp only[lV,p7]at jb;subst jb;have hi:A.length - 1 - j<A.length:=by omega
  rw[show A.length - j=(A.length - 1 - j)+1 by omega]at g5;have ub:A.length - (j+1)=A.length - 1 - j:=by omega
  generalize A.length - 1 - j=i at*;rw[jm hi];refine ζ<|γ U<|ε<|aL<|γ U<|ε ⟨rfl,rfl,λh8 tC=>?_⟩;have g4':Dv h n h8 n7 n n1 n2 (a.length+1) vr r:=⟨g4.ext.aj tC (by omega),g4.qJ.aj tC (by omega),g4.lG.aj tC (by omega),by obtain⟨ds,f1,f2⟩:=g4.co;exact⟨ds,f1,f2.aj tC (by omega)⟩,g4.ir.aj tC (gs.imp id λh=>by omega),g4.FK,g4.sep⟩;refine Γ (ai7 hC (i:=i) (χ _) (by omega) (by omega) c8 iB nB GH kz eF c9 pd FI mh g4' (by rw[g5];exact lS _ ua) (nA.get hi) ?_) ⟨rfl,rfl,rfl,rfl,rfl,rfl,rfl,rfl,trivial⟩;intro mX r' h' n' E' s' k' Ny nW;have z1:=k'.1;refine⟨by omega,k'.2 n6 (by omega) (by omega) (by omega),⟨by omega,(k'.2 bb g2 (by omega) (by omega)).trans ((tC bb (by omega)).trans g3)⟩,mX,r',s',Ny.imp id λh=>by omega,?_⟩;rw[ub,nW,AE A hi,g5,Mo]
 ·rintro h' n' xA ⟨⟨g2,g3⟩,vr,r,g4,gs,g5⟩;rw[oM,qc,jr]at g5;obtain⟨ds,ug,f2⟩:=g4.co;have xx:=x.trans g4.ext;have hlr:r.length<=size:=by rw[←GH];exact pH g4.FK.2 nB.1 (by decide) (by rw[g5];exact fY (lS _ ua))
  have z5:=c5.1;refine Γ (ajj hC xx zW JE JI JJ (c4.ext g4.ext) (c5.ext g4.ext) (c6.ext g4.ext) (is.ext g4.ext) g4.qJ f2 ug (by omega) (by omega) g4.lG g4.ir g4.FK (by omega) (λvq q v2 r2 Be nU e1 i1 i2 GJ Gj s2=>hQ vq q v2 r2 Be nU e1 i1 i2 GJ (by rw[Gj,g5]) s2)) ⟨rfl,rfl,rfl,rfl,rfl,trivial⟩
 ·rintro ex h' n' qt xA hf;exact hf.elim
end
end
section
variable {C:Nat->Option bN}{h:Hf}{n:K}{Q:V->Hf->K->Prop}
section
variable {hs:Hf}{ns b2 b3 b4 b5:K}
theorem ajp(hC:Cd C){va vb:V}{a b:List Nat}(x:Ext hs ns h n)(zW:ns.num<=b4.num)(JE:b4.num<b5.num)
 (c2:Cl h n b2 [va] 271)(ia:aQ h n .u32 va a)(fG:a.length<400)(na:eA Bg a)(c3:Cl h n b3 [vb] 271)(ib:aQ h n .u32 vb b)(gp:b.length<400)(nb:eA Bg b)(fM:2<=b.length)(c4:Cl h n b4 [.ns] 271)(c5:Cl h n b5 [.ns] 271)
 (hQ:∀vq q v2 r2 h' n',Ext hs ns h' n'->aQ h' n' .u32 vq q->aQ h' n' .u32 v2 r2->eA Bg r2->val Bg r2=val Bg a % val Bg b->(v2=.ns\/ns.num<=v2.blk.num)->Q (.u [.a [vq],.a [v2]]) h' n'):
 WC C Se [(k2,.p b2 0),(k3,.p b3 0),(k4,.p b4 0),(k5,.p b5 0)] h n (fq [.cell k4 true 1,.cell k5 true 1] Q):=by
 have ω:b.length - 1<b.length:=by omega
 have g1:aX h false 1 (.p vb.blk (vb.off+(b.length - 1)*1))=some (.i .u32 (b.getD (b.length - 1) 0:Nat)):=by rw[jm ω];exact ib.get ω 1
 have q1:b.getD (b.length - 1) 0<Bg:=nb.1.getD (by decide) _;have JF:=q1;simp only[Bg]at JF;generalize hbt:b.getD (b.length - 1) 0=bt at*;obtain⟨s,NB⟩:∃s,s=1000000000 / (bt+1):=⟨_,rfl⟩;have kA:s<=1000000000:=by rw[NB];exact Nat.div_le_self _ _
 have z2:=c2.1;have z3:=c3.1;refine ζ<|ρ U<|ν U (c3.ld U _)<|ρ U<|ν U (c3.ld U _)<|az U ib<|mO U U (show(b.length:Int) - 1=((b.length - 1:Nat):Int) by omega) ⟨by omega,by omega⟩<|bj U U ib ω<|ν U g1<|pB U ⟨by omega,by omega⟩<|lz U U (show(bt:Int)+1=((bt+1:Nat):Int) by omega) ⟨by omega,by omega⟩<|Ez (a:=1000000000) (b:=bt+1) U U (by omega) ⟨sE _,by rw[←NB];omega⟩<|?_;rw[←NB];refine pB U ⟨by omega,by omega⟩<|lu U <| λh1 n1 dS a1 e1=>mc (vT (v:=.sl n 0 1 1) U U U)<|du <| λh2 n2 iL a2 e2=>bL U U a2 (dW rfl rfl rfl) <| λh3 a3 xf=>ε ?_;have Fk:de n1 h2 h3:=xf;have kD:Ext h n h3 n2:=(e1.trans e2).aj Fk (by omega);have is3:aQ h3 n1 .u32 (.sl n 0 1 1) [s]:=(aQ.ext (n:=n1) (φ.whole (len:=1) (by omega) a1 rfl) (⟨χ _,λk hk=>(Fk k (by omega)).trans (e2.2 k hk)⟩));have c6:Cl h3 n2 n1 [.sl n 0 1 1] 271:=⟨by omega,a3⟩;have d2:=c2.ext kD;have d3:=c3.ext kD;have qD:=ia.ext kD;have qE:=ib.ext kD;have AZ:aQ h3 n2 .u32 (.sl n 0 1 1) [s]:=is3.up (by omega);have l3:∀{H:Hf},Ag n2 h3 H->aX H true 1 (.p b3 0)=some (.a [vb]):=λag=>bQ (d3.ext (ag.x (χ _))).2 rfl;have l6:∀{H:Hf},Ag n2 h3 H->aX H true 1 (.p n1 0)=some (.a [.sl n 0 1 1]):=λag=>bQ (c6.ext (ag.x (χ _))).2 rfl;have A0:∀{l:List Nat},eA Bg l->val Bg l=val Bg b*s->l.length=b.length/\Bg<=2*l.getD (b.length - 1) 0/\1<=s/\s<Bg:=λhn hv=>
  afm (B:=Bg) (H:=500000000) (by decide) (by decide) nb (by omega) (by rw[hbt,NB]) hn hv
 have JJ:s<Bg:=by
  have h1:s<=1000000000:=kA;rcases jC s Bg with h | h
  ·exact h
  ·exfalso;have auG:0<bt:=by
    have aR:b≠[]:=λe=>by rw[e]at fM;simp at fM
    have:=nb.2 aR;rw[List.getLast_eq_getElem,←jm ω]at this;omega
   have:s*(bt+1)<=1000000000:=by rw[NB];exact Nat.div_mul_le_self _ _
   have h3:Bg*2<=s*(bt+1):=xQ h (by omega);simp only[Bg]at h3;omega
 have sS:Sm Bg [s]:=Sm.cons JJ Sm.nil;clear g1 a1 a2 a3 xf e1 e2;refine dh<|aD U (bQ d2.2 rfl) (mo (qD.below (χ _))) (mq (φ.da qD))<|aD U (l6 (Ag.refl _ _)) (mo (AZ.below (χ _))) (mq (φ.da AZ))<|cj U U<|Nt hC (by omega) (by simp) na.1 sS qD AZ <| λv4 p4 h4 n4 e4 i4 np4 vl4 auH=>aD U (l3 e4.ag) (mo ((qE.ext e4).below (χ _))) (mq (φ.da qE))<|aD U (l6 e4.ag) (mo ((AZ.ext e4).below (χ _))) (mq (φ.da AZ))<|cj U U<|Nt hC (by omega) (by simp) nb.1 sS (qE.ext e4) (AZ.ext e4) <| λv5 p5 h5 n5 e5 i5 OZ vl5 NC=>sZ <| λh6 n6 oZ a6 e6=>sZ <| λh7 n7 xA a7 e7=>fV U U ((fR h7 n5 (h6 n5)).trans a6) (dW rfl rfl (fh i4.one)) <| λh8 a8 tC=>fV U U ((tC n6 (by omega)).trans ((CG (by omega)).trans a7)) (dW rfl rfl (fh i5.one)) <| λh9 a9 b9'=>cG (⟨⟨Ω (by simp[Nat.testBit]),Ω (by simp[Nat.testBit]),Ω (by simp[Nat.testBit]),dj (l6 (((Ag.refl _ _).hp n6 none (by have:=e4.1;have:=e5.1;omega)).hp n5 none (by have:=e4.1;have:=e5.1;omega))) (l6 ((e4.ag.hp n6 none (by have:=e4.1;have:=e5.1;omega)).hp n5 none (by have:=e4.1;have:=e5.1;omega))),trivial⟩,⟨Ω (by simp[Nat.testBit]),Ω (by simp[Nat.testBit]),Ω (by simp[Nat.testBit]),dj (l3 (((Ag.refl _ _).hp n6 none (by have:=e4.1;have:=e5.1;omega)).hp n5 none (by have:=e4.1;have:=e5.1;omega))) (l3 ((e4.ag.hp n6 none (by have:=e4.1;have:=e5.1;omega)).hp n5 none (by have:=e4.1;have:=e5.1;omega))),trivial⟩,⟨Ω (by simp[Nat.testBit]),Ω (by simp[Nat.testBit]),Ω (by simp[Nat.testBit]),Ω (by simp[Nat.testBit]),trivial⟩,⟨Ω (by simp[Nat.testBit]),Ω (by simp[Nat.testBit]),Ω (by simp[Nat.testBit]),Ω (by simp[Nat.testBit]),trivial⟩,trivial⟩) ?_;have z4:=e4.1;have z5:=e5.1;have CI:de n5 (hp h7 n5 (h6 n5)) h8:=tC;have W0:de n6 h8 h9:=b9';have ND:Ext (hp h6 n5 none) n6 h7 n7:=e7;have ag9:Ag n5 h5 h9:=(((((e6.ag.hp n5 none (χ _)).ext ND (by omega)).hp n5 (h6 n5) (χ _)).aj CI (χ _)).aj W0 (by omega));have O0:Ext h5 n5 h9 n7:=ag9.x (by omega);have e39:=(e4.trans e5).trans O0;have c7:Cl h9 n7 n5 [v4] 271:=⟨by omega,(W0 n5 (by omega)).trans a8⟩;have c8:Cl h9 n7 n6 [v5] 271:=⟨by omega,a9⟩;have i4':=(i4.ext e5).ext O0;have Gn:=i5.ext O0;clear a6 a7 a8 a9 e6 e7 tC b9';have z59:=O0.1;obtain⟨O1,ht5,JI,_⟩:=A0 OZ (by rw[vl5];simp only[val,kE,kF]);rw[←O1]at ht5;refine ζ<|ρ U<|ν U (c8.ld U _)<|az U (Gn)<|du <| λkC eT auI zd oT=>bL U U (zd) (rfl) <| λmN Gf W1=>ε ?_;have aju:de n7 kC mN:=W1;have IJ:Ext h9 n7 mN eT:=oT.aj aju (χ _);have c9:Cl mN eT n7 [.i .i64 (p5.length:Nat)] 3:=⟨by omega,Gf⟩;have c8':=c8.ext IJ;have A1:=Gn.ext IJ;clear zd Gf oT W1;have NF:p5.length - 1<p5.length:=by omega
 have vP:p5.length - 2<p5.length:=by omega
 have Zb:∀{H:Hf},Ag eT mN H->aX H false 1 (.p v5.blk (v5.off+(p5.length - 1)*1))=some (.i .u32 (p5.getD (p5.length - 1) 0:Nat)):=λag=>by rw[jm NF];exact(A1.ext (ag.x (χ _))).get NF 1
 have NG:∀{H:Hf},Ag eT mN H->aX H false 1 (.p v5.blk (v5.off+(p5.length - 2)*1))=some (.i .u32 (p5.getD (p5.length - 2) 0:Nat)):=λag=>by rw[jm vP];exact(A1.ext (ag.x (χ _))).get vP 1
 have l8:∀{H:Hf},Ag eT mN H->aX H false 1 (.p n6 0)=some v5:=λag=>dL (c8'.ext (ag.x (χ _))).2 rfl _;have l9:∀{H:Hf},Ag eT mN H->aX H false 1 (.p n7 0)=some (.i .i64 (p5.length:Nat)):=λag=>dL (c9.ext (ag.x (χ _))).2 rfl _;have qt1:p5.getD (p5.length - 1) 0<1000000000:=OZ.1.getD (by decide) _;have qt2:p5.getD (p5.length - 2) 0<1000000000:=OZ.1.getD (by decide) _;have be5:=A1.below (χ eT.num);have auJ:p5.length<1000:=by omega
 refine dh<|bX U<|aD U (l8 (Ag.refl _ _)) (be5) (φ.da A1)<|aD U (l9 (Ag.refl _ _)) U (fK _ _)<|Ck U U ((show(p5.length:Int) - 1=((p5.length - 1:Nat):Int) by omega)) ⟨by omega,by omega⟩<|cX U U (A1) (NF)<|aD U (Zb (Ag.refl _ _)) U (fK _ _)<|vL U ⟨by omega,by omega⟩<|bX U<|aD U (l8 (Ag.refl _ _)) (be5) (φ.da A1)<|aD U (l9 (Ag.refl _ _)) U (fK _ _)<|Ck U U ((show(p5.length:Int) - 2=((p5.length - 2:Nat):Int) by omega)) ⟨by omega,by omega⟩<|cX U U (A1) (vP)<|aD U (NG (Ag.refl _ _)) U (fK _ _)<|vL U ⟨by omega,by omega⟩<|sZ <| λjO AW acM Js iU=>sZ <| λsA GI auK MI lH=>fV U U ((fR sA eT (jO eT)).trans Js) (rfl) <| λDp Y0 pK=>fV U U ((pK AW (by omega)).trans ((CG (by omega)).trans MI)) (rfl) <| λuj Y9 FP=>cG (⟨⟨Ω (by simp[Nat.testBit]),dj (NG (((((iU.ag.hp eT none (χ _)).ext lH (by omega)).hp eT (jO eT) (χ _)).hp AW none (by omega)).hp eT none (χ _))) (NG ((((((iU.ag.hp eT none (χ _)).ext lH (by omega)).hp eT (jO eT) (χ _)).aj pK (χ _)).hp AW none (by omega)).hp eT none (χ _))),trivial⟩,⟨Ω (by simp[Nat.testBit]),dj (l9 (((((iU.ag.hp eT none (χ _)).ext lH (by omega)).hp eT (jO eT) (χ _)).hp AW none (by omega)).hp eT none (χ _))) (l9 ((((((iU.ag.hp eT none (χ _)).ext lH (by omega)).hp eT (jO eT) (χ _)).aj pK (χ _)).hp AW none (by omega)).hp eT none (χ _))),trivial⟩,⟨Ω (by simp[Nat.testBit]),dj (l8 (((((iU.ag.hp eT none (χ _)).ext lH (by omega)).hp eT (jO eT) (χ _)).hp AW none (by omega)).hp eT none (χ _))) (l8 ((((((iU.ag.hp eT none (χ _)).ext lH (by omega)).hp eT (jO eT) (χ _)).aj pK (χ _)).hp AW none (by omega)).hp eT none (χ _))),trivial⟩,⟨Ω (by simp[Nat.testBit]),Ω (by simp[Nat.testBit]),trivial⟩,⟨Ω (by simp[Nat.testBit]),Ω (by simp[Nat.testBit]),trivial⟩,⟨Ω (by simp[Nat.testBit]),Ω (by simp[Nat.testBit]),trivial⟩,trivial⟩) ?_;have ajw:de eT (hp sA eT (jO eT)) Dp:=pK;have W2:de AW Dp uj:=FP;have ajx:Ext (hp jO eT none) AW sA GI:=lH;have ajy:Ag eT mN uj:=(((((iU.ag.hp eT none (χ _)).ext ajx (by omega)).hp eT (jO eT) (χ _)).aj ajw (χ _)).aj W2 (by omega));have W3:Ext mN eT uj GI:=ajy.x (by omega);have pd:Cl uj GI eT [.i .u64 (p5.getD (p5.length - 1) 0:Nat)] 326:=⟨by omega,(W2 eT (by omega)).trans Y0⟩;have FI:Cl uj GI AW [.i .u64 (p5.getD (p5.length - 2) 0:Nat)] 326:=⟨by omega,Y9⟩;have FR:=IJ.trans W3;have NH:=e39.trans FR;have FT:=kD.trans NH;have auL:=IJ.1;have hp4:val Bg p4=val Bg a*s:=by rw[vl4];simp only[val,kE,kF]
 have hp5:val Bg p5=val Bg b*s:=by rw[vl5];simp only[val,kE,kF]
 have auM:p4.length<=a.length+1:=by apply Iy (B:=Bg) np4.2 (by decide);rw[hp4,gI];have h1:=pF na.1;have h3:val Bg a*s<=val Bg a*Bg:=rh _ (by omega);have h4:val Bg a*Bg<Bg ^ a.length*Bg:=Nat.mul_lt_mul_of_pos_right h1 (by decide);omega
 refine Γ (ajn (ss:=[]) hC (x.trans FT) zW JE JI JJ (c2.ext FT) (ia.ext FT) (by omega) (c4.ext FT) (c5.ext FT) (c6.ext NH) (AZ.ext NH) (c7.ext FR) (i4'.ext FR) np4.1 (by omega) (c8.ext FR) (Gn.ext FR) OZ rfl (by omega) (by omega) (c9.ext W3) pd FI ht5 ?_) ⟨rfl,rfl,rfl,rfl,rfl,rfl,rfl,rfl,rfl,trivial⟩;intro vq q v2 r2 h' n' e1 i1 i2 GJ Gj s2;refine hQ vq q v2 r2 h' n' e1 i1 i2 GJ ?_ s2;rw[Gj,hp4,hp5,Nat.mul_mod_mul_right,Nat.mul_div_cancel _ JI]
end
theorem ajA(hC:Cd C){va vb:V}{a b:List Nat}(fG:a.length<400)(gp:b.length<400)(na:eA Bg a)(nb:eA Bg b)(gW:b≠[])(ia:aQ h n .u32 va a)(ib:aQ h n .u32 vb b)
 (hQ:∀vq q v2 r2 h' n',Ext h n h' n'->aQ h' n' .u32 vq q->aQ h' n' .u32 v2 r2->eA Bg r2->val Bg r2=val Bg a % val Bg b->(v2=va\/v2=.ns\/n.num<=v2.blk.num)->Q (.u [.a [vq],.a [v2]]) h' n'):τ C (.f 266 [] []) [.a [va],.a [vb]] h n Q:=by
 refine τ.go hC.f266 U ?_;refine ζ<|et U (rfl) (fh ia.one) <| λh1 n1 dS a1 e1=>et U (rfl) (fh ib.one) <| λh2 n2 iL a2 e2=>du <| λh3 n3 og a3 e3=>du <| λh4 n4 wj a4 e4=>ε ?_;have x4:=((e1.trans e2).trans e3).trans e4;have c2:Cl h4 n4 n [va] 271:=Cl.ext (Cl.ext (Cl.ext ⟨by omega,a1⟩ e2) e3) e4;have c3:Cl h4 n4 n1 [vb] 271:=Cl.ext (Cl.ext ⟨by omega,a2⟩ e3) e4;have c4:Cl h4 n4 n2 [.ns] 271:=Cl.ext ⟨by omega,a3⟩ e4;have c5:Cl h4 n4 n3 [.ns] 271:=⟨by omega,a4⟩;have GD:=ia.ext x4;have ib4:=ib.ext x4;clear a1 a2 a3 a4;refine ξ<|ζ<|ν U (bQ c2.2 rfl)<|ν U (bQ c3.2 rfl)<|ak U U<|WG hC (by omega) (by omega) na nb GD ib4 <| λh5 n5 e5=>aO U U<|ε ?_;have x5:=x4.trans e5;have z5:=e5.1;have d2:=c2.ext e5;have d3:=c3.ext e5;have d4:=c4.ext e5;have d5:=c5.ext e5;have GK:=GD.ext e5;have uc:=ib4.ext e5;by_cases ω:val Bg a<val Bg b
 ·have tu:gr (val Bg a) (val Bg b) = -1:=by unfold gr;rw[au ω]
  rw[tu];refine an U (by simp) ?_;have l2:aX h5 true 1 (.p n 0)=some (.a [va]):=bQ d2.2 rfl;refine dh<|wR U<|aD U (l2) (mo (GK.below (χ _))) (mq (φ.da GK))<|fV U U (d4.2) (dW rfl rfl rfl) <| λh6 a6 b6=>fV U U ((Cl.aj (n:=n5) d5 b6 (by omega)).2) (dW rfl rfl (fh GK.one)) <| λh7 a7 b7=>cG (⟨⟨Ω (by simp[Nat.testBit]),dj (l2) (bQ ((b6 n (by omega)).trans d2.2) U),trivial⟩,trivial⟩) ?_;have qY:de n2 h5 h6:=b6;have qF:de n3 h6 h7:=b7;refine Θ ⟨_,Eu rfl (bQ (l':=[.ns]) ((qF n2 (by omega)).trans a6) U) U (bQ a7 rfl),?_⟩;have e7:Ext h n h7 n5:=(x5.aj qY (by omega)).aj qF (by omega);exact hQ .ns [] va a h7 n5 e7 aQ.nil (ia.ext e7) na (zC ω).symm (Or.inl U)
 ·have tu:¬ gr (val Bg a) (val Bg b)<0:=by rw[VZ];exact ω
  refine ay U (by simpa using tu)<|ae ?_;refine ξ<|ζ<|ρ U<|ν U (d3.ld U _)<|az U (uc)<|bm U U<|ε ?_;have hK:0<b.length:=List.length_pos_iff.2 gW;by_cases h1:b.length=1
  ·refine an U (by simp[h1]) ?_;have q:=nb.1.get hK;have qU:val Bg b=b[0]:=by
    match b,h1 with
    | [y],_=>simp[val]
   have ajC:0<b[0]:=by
    have:=nb.2 gW
    match b,h1 with
    | [y],_=>simp only[List.getLast_singleton]at this;exact xJ this
   refine dh<|aD U (bQ d2.2 rfl) (mo (GK.below (χ _))) (mq (φ.da GK))<|bX U<|aD U (d3.ld U _) (uc.below (χ _)) (φ.da uc)<|cX U U (uc) (hK)<|aD U (uc.get hK _) U (fK _ _)<|cj U U<|WK hC (by omega) na.1 ajC q GK <| λv1 q1 v2 r2 h6 n6 e6 i1 nq1 vq1 i2 GJ vr2 s1 s2=>HN U U<|HN U U<|fV U U ((d4.ext e6).2) (dW rfl rfl (fh i1.one)) <| λh7 a7 b7=>fV U U ((Cl.aj (n:=n6) (d5.ext e6) b7 (by omega)).2) (dW rfl rfl (fh i2.one)) <| λh8 a8 b8=>cG (⟨⟨Ω (by simp[Nat.testBit]),Ω (by simp[Nat.testBit]),Ω (by simp[Nat.testBit]),trivial⟩,⟨Ω (by simp[Nat.testBit]),Ω (by simp[Nat.testBit]),Ω (by simp[Nat.testBit]),trivial⟩,⟨Ω (by simp[Nat.testBit]),Ω (by simp[Nat.testBit]),Ω (by simp[Nat.testBit]),trivial⟩,trivial⟩) ?_;have qF:de n2 h6 h7:=b7;have tC:de n3 h7 h8:=b8;refine Θ ⟨_,Eu rfl (bQ (l':=[v1]) ((tC n2 (by omega)).trans a7) U) U (bQ a8 rfl),?_⟩;have e8:Ext h n h8 n6:=((x5.trans e6).aj qF (by omega)).aj tC (by omega);exact hQ v1 q1 v2 r2 h8 n6 e8 ((i1.aj qF (s1.imp id λh=>by omega)).aj tC (s1.imp id λh=>by omega)) ((i2.aj qF (s2.imp id λh=>by omega)).aj tC (s2.imp id λh=>by omega)) GJ (by rw[vr2,qU]) (Or.inr (s2.imp id λh=>by omega))
  ·refine ay U (by simp<;>omega)<|ae ?_;refine Γ (ajp hC (hs:=h) (ns:=n) x5 (by omega) (by omega) d2 GK fG na d3 uc gp nb (by omega) d4 d5 ?_) ⟨rfl,rfl,rfl,rfl,trivial⟩;intro vq q v2 r2 h' n' e1 i1 i2 GJ Gj s2;exact hQ vq q v2 r2 h' n' e1 i1 i2 GJ Gj (Or.inr s2)
end
section
variable {C:Nat->Option bN}{h:Hf}{n:K}{Q:V->Hf->K->Prop}
theorem ajD(hC:Cd C){h0:Hf}{n0 b2 b3 b4:K}(qt:n0.num<=b2.num)(MK:n0.num<=b3.num)(OF:n0.num<=b4.num)(h23:b2.num≠b3.num)(h24:b2.num≠b4.num)(h34:b3.num≠b4.num){G:Nat}
 {Q1:Ex->Env->Hf->K->Prop}(hQ:∀va g h n E',Ext h0 n0 h n->Cl h n b2 [va] 271->Cl h n b4 [.ns] 271->aQ h n .u32 va g->g.length<400->eA Bg g->val Bg g=G->(va=.ns\/va.blk.num≠b4.num)->dK [(k2,.p b2 0),(k4,.p b4 0)] E'->Q1 .normal E' h n):
 ∀(m:Nat) (va vb:V) (a b:List Nat) (h:Hf) (n:K),val Bg b<=m->a.length<400->b.length<400->eA Bg a->eA Bg b->Nat.gcd (val Bg a) (val Bg b)=G->aQ h n .u32 va a->aQ h n .u32 vb b->(va=.ns\/va.blk.num≠b2.num/\va.blk.num≠b3.num/\va.blk.num≠b4.num)->(vb=.ns\/vb.blk.num≠b2.num/\vb.blk.num≠b3.num/\vb.blk.num≠b4.num)->Ext h0 n0 h n->Cl h n b2 [va] 271->Cl h n b3 [vb] 271->Cl h n b4 [.ns] 271->WC C R7 [(k2,.p b2 0),(k3,.p b3 0),(k4,.p b4 0)] h n (blk 0 Q1):=by
 intro m
 induction m with
 | zero=>
  intro va vb a b h n hm fG gp ha hb hG ia ib Df Bm he c2 c3 c4;have gW:b=[]:=(val_zero (B:=Bg) hb.2 (by decide)).1 (by omega);subst gW;refine aJ ?_;refine ξ<|ξ<|aL<|ν U (bQ c3.2 rfl)<|ak U U<|FF hC ib (by omega) <| λh1 n1 e1=>di U<|ε ?_;exact ay U U<|bM (hQ va a h1 n1 _ (he.trans e1) (c2.ext e1) (c4.ext e1) (ia.ext e1) fG ha (by simpa[val]using hG) (Df.imp id λh=>h.2.2) ⟨rfl,rfl,trivial⟩)
 | succ m ih=>
  intro va vb a b hA nA hm fG gp ha hb hG ia ib Df Bm he c2 c3 c4;refine aJ ?_;refine ξ<|ξ<|aL<|ν U (bQ c3.2 rfl)<|ak U U<|FF hC ib (by omega) <| λh n e1=>di U<|ε ?_;replace he:=he.trans e1;replace c2:=c2.ext e1;replace c3:=c3.ext e1;replace c4:=c4.ext e1;replace ia:=ia.ext e1;replace ib:=ib.ext e1;clear e1 hA nA;by_cases gW:b=[]
  ·subst gW;exact ay U U<|bM (hQ va a h n _ he c2 c4 ia fG ha (by simpa[val]using hG) (Df.imp id λh=>h.2.2) ⟨rfl,rfl,trivial⟩)
  ·have hK:0<b.length:=by cases b with | nil=>exact absurd rfl gW | cons=>simp
   refine an U (by simp<;>omega)<|ae ?_;have Gk:0<val Bg b:=xJ λe=>gW ((val_zero (B:=Bg) hb.2 (by decide)).1 e);refine aC<|ζ<|ν U (bQ c2.2 rfl)<|ν U (bQ c3.2 rfl)<|ak U U<|ajA hC fG gp ha hb gW ia ib <| λvq q vr r h1 n1 e1 iq ir hr mX ur=>γ U<|dG U U<|dG U U<|du <| λh2 n2 iL a2 e2=>du <| λh3 n3 og a3 e3=>bL U U ((Cl.ext (n:=n2) ⟨by omega,a2⟩ e3).2) (dW rfl rfl (fh iq.one)) <| λh4 a4 t4=>bL U U ((Cl.aj (n:=n3) ⟨by omega,a3⟩ t4 (by omega)).2) (dW rfl rfl (fh ir.one)) <| λh5 a5 t5=>ε ?_;have g2:=c2.1;have g3:=c3.1;have g4:=c4.1;have lN:Ext h1 n1 h5 n3:=((e2.trans e3).aj t4 (χ _)).aj t5 (by omega);have d2:=(c2.ext e1).ext lN;have d3:=(c3.ext e1).ext lN;have d4:=(c4.ext e1).ext lN;have l3:aX h5 true 1 (.p b3 0)=some (.a [vb]):=bQ d3.2 rfl;have l6:aX h5 true 1 (.p n2 0)=some (.a [vr]):=bQ a5 rfl;have uc:=(ib.ext e1).ext lN;have Gq:=ir.ext lN;have g1:=e1.1;refine uG<|aD U (l3) (mo (φ.below uc (χ _))) (mq (φ.da uc))<|aD U (l6) (mo (φ.below Gq (χ _))) (mq (φ.da Gq))<|fV U U (d2.2) (dW rfl rfl (fh ib.one)) <| λh6 a6 b6=>fV U U ((d3.aj b6 (by omega)).2) (dW rfl rfl (fh ir.one)) <| λh7 a7 b7=>cG (⟨⟨Ω (by simp[Nat.testBit]),dj (l6) (bQ ((b6 _ (by omega)).trans a5) U),trivial⟩,⟨Ω (by simp[Nat.testBit]),Ω (by simp[Nat.testBit]),trivial⟩,trivial⟩) ?_;have Gs:h7 b2=some (.c [vb] 271 0):=(b7 _ (by omega)).trans a6;have qY:de b2 h5 h6:=b6;have qF:de b3 h6 h7:=b7;have Yy:h7 b3=some (.c [vr] 271 0):=a7;have BQ:=lS (val Bg a) Gk;have oA:r.length<400:=by have:=pH (B:=Bg) hr.2 hb.1 (by decide) (by rw[mX];exact fY BQ);omega
   have Gt:vr=.ns\/vr.blk.num≠b2.num/\vr.blk.num≠b3.num/\vr.blk.num≠b4.num:=by
    rcases ur with h | h | h
    ·rw[h];exact Df
    ·exact Or.inl h
    ·exact Or.inr ⟨by omega,by omega,by omega⟩
   refine Γ (ih vb vr b r h7 n3 (by omega) gp oA hb hr ?_ ((uc.aj qY (Bm.imp id λh=>h.1)).aj qF (Bm.imp id λh=>h.2.1)) ((Gq.aj qY (Gt.imp id λh=>h.1)).aj qF (Gt.imp id λh=>h.2.1)) Bm Gt (((he.trans (e1.trans lN)).aj qY qt).aj qF MK) ⟨d2.1,Gs⟩ ⟨d3.1,Yy⟩ ((d4.aj qY (by omega)).aj qF (by omega))) ⟨rfl,rfl,rfl,trivial⟩;rw[mX,←hG,Nat.gcd_comm (val Bg a),Nat.gcd_rec (val Bg b) (val Bg a),Nat.gcd_comm]
theorem ajE(hC:Cd C){va vb:V}{a b:List Nat}(fG:a.length<400)(gp:b.length<400)(ha:eA Bg a)(hb:eA Bg b)(ia:aQ h n .u32 va a)(ib:aQ h n .u32 vb b)
 (hQ:∀vg g h' n',Ext h n h' n'->aQ h' n' .u32 vg g->g.length<400->eA Bg g->val Bg g=Nat.gcd (val Bg a) (val Bg b)->Q (.a [vg]) h' n'):τ C (.f 220 [] []) [.a [va],.a [vb]] h n Q:=by
 refine τ.go hC.f220 U ?_;refine ζ<|et U (rfl) (fh ia.one) <| λh1 n1 dS a1 e1=>et U (rfl) (fh ib.one) <| λh2 n2 iL a2 e2=>du <| λh3 n3 og a3 e3=>ε ?_;have kD:=(e1.trans e2).trans e3;have c2:Cl h3 n3 n [va] 271:=(Cl.ext ⟨by omega,a1⟩ e2).ext e3;have c3:Cl h3 n3 n1 [vb] 271:=Cl.ext ⟨by omega,a2⟩ e3;have c4:Cl h3 n3 n2 [.ns] 271:=⟨by omega,a3⟩;refine ξ<|aC<|Γ (ajD hC (h0:=h) (n0:=n) (b2:=n) (b3:=n1) (b4:=n2) (χ _) (by omega) (by omega) (by omega) (by omega) (by omega) ?_ _ va vb a b h3 n3 (χ _) fG gp ha hb rfl (ia.ext kD) (ib.ext kD) ((ia.zQ).imp id λh=>⟨by omega,by omega,by omega⟩) ((ib.zQ).imp id λh=>⟨by omega,by omega,by omega⟩) kD c2 c3 c4) ⟨rfl,rfl,rfl,trivial⟩;intro vg g h6 n6 E6 x6 d2 d4 i6 l6 r6 v6 u6 s6;refine dQ s6 ?_;refine ζ<|ν U (bQ d2.2 rfl)<|bL U U (d4.2) (dW rfl rfl (fh i6.one)) <| λh7 a7 b7=>ε ?_;refine Θ ⟨_,iO rfl (bQ a7 rfl),?_⟩;exact hQ vg g h7 n6 (x6.aj b7 (by omega)) (i6.aj b7 u6) l6 r6 v6
end
section
variable {C:Nat->Option bN}{h:Hf}{n:K}{Q:V->Hf->K->Prop}
def chunk(s:S)(i:Nat):S:=(s.take (s.length - 9*i)).drop (s.length - 9*i - 9)
def FU(s:S):List (List V):=(List.range ((s.length+8) / 9)).map λi=>[st (chunk s i)]
theorem IK(s:S):(FU s).length=(s.length+8) / 9:=by simp[FU]
theorem NI(s:S){i:Nat}(hi:i<(FU s).length):(FU s)[i]=[st (chunk s i)]:=by simp[FU]
theorem ajF(hC:Cd C){s:S}(hlen:s.length<1000000){b:K}:Rw C (.f 293 [] [.p b 0]) b (some (.c [st s] 9 0)) (FU s):=by
 intro y I D h n hE hB jU pU hS h0;refine τ.go hC.f293 U ?_;refine aC ?_;have key:∀(m i:Nat) (h:Hf) (n:K),(s.length+8) / 9 - i=m->i<=(s.length+8) / 9->b.num<n.num->h b=some (.c [st (s.take (s.length - 9*i))] 9 0)->I i h n->WC C R5 [(k0,y),(k1,.p b 0)] h n (blk 0 (fq [] (λv h' n'=>I (FU s).length h' n'\/D h' n'))):=by
  intro m
  induction m with
  | zero=>
   intro i h n hm hi jU pU hI;have hl:(s.take (s.length - 9*i)).length=0:=by simp<;>omega
   refine aJ ?_;refine ξ<|ζ<|ν U (dL pU rfl _)<|cH U<|cS U U<|ε ?_;refine ay U (by rw[hl];rfl)<|bM ⟨_,rfl,Or.inl ?_⟩;rw[IK];have:i=(s.length+8) / 9:=by omega
   rw[←this];exact hI
  | succ m ih=>
   intro i h n hm hi jU pU hI;have hl:(s.take (s.length - 9*i)).length=s.length - 9*i:=by simp<;>omega
   have gH:0<s.length - 9*i:=by omega
   refine aJ ?_;refine ξ<|ζ<|ν U (dL pU rfl _)<|cH U<|cS U U<|ε ?_;rw[hl];refine an U (by simp<;>omega)<|ae ?_;refine aC<|ζ<|ν U (dL pU rfl _)<|cH U<|iz U U ⟨by omega,by omega⟩<|K2 U U<|γ U<|ε ?_;rw[hl];have DX:max (0:Int) ((s.length - 9*i:Nat) - 9:Int)=((s.length - 9*i - 9:Nat):Int):=by omega
   rw[DX];have kS:i<(FU s).length:=by rw[IK];omega
   have hck:((s.take (s.length - 9*i)).drop (s.length - 9*i - 9)).take ((s.take (s.length - 9*i)).length - (s.length - 9*i - 9))=chunk s i:=by unfold chunk;exact pZ (by simp)
   have:=hS i kS h n jU hI;rw[NI,←hck]at this;refine ξ<|ζ<|γ U<|ν U (dL pU rfl _)<|γ U<|Al U U U (by omega) (χ _)<|ak U U<|τ.mono this ?_;rintro v h3 n3 ⟨og,y8,⟨rfl,hx⟩ | ⟨rfl,hx⟩⟩
   ·refine di U<|ε<|ay U U<|ae ?_;have W4:=y8.trans pU;refine aL<|ν U (dL W4 rfl _)<|γ U<|Al U U U ((uw _)) ((show s.length - 9*i - 9<=(s.take (s.length - 9*i)).length by omega))<|bL U U (W4) (rfl) <| λh4 a4 b4=>ε ?_;have e4:((s.take (s.length - 9*i)).drop 0).take (s.length - 9*i - 9 - 0)=s.take (s.length - 9*(i+1)):=by
     rw[jr,List.take_take];congr 1;omega
    rw[e4]at a4;exact Γ (ih (i+1) h4 n3 (by omega) (by omega) (by omega) a4 (hB _ _ _ _ hx b4)) ⟨rfl,rfl,trivial⟩
   ·exact di U<|ε<|an U U<|Θ ⟨_,rfl,Or.inr hx⟩
 refine Γ (key _ 0 h n rfl (by omega) jU ?_ h0) ⟨rfl,rfl,trivial⟩;rw[pU,kE,qb,gM]
theorem ajG(hC:Cd C){s:S}(hlen:s.length<1000000)(hQ:∀h' n',Ext h n h' n'->n'.num=n.num+1->h' n=some (.c [st s] 9 0)->Q (.f 293 [] [.p n 0]) h' n'):τ C (.f 263 [] []) [st s] h n Q:=by refine τ.go hC.f263 U ?_;refine ζ<|et U (rfl) (rfl) <| λh1 n1 dS a1 e1=>γ U<|ε ?_;refine ζ<|Am U U<|γ U<|ε (Θ ⟨_,rfl,hQ h1 n1 e1 dS a1⟩)
theorem ajH{k:Nat}(h:k<=9):10 ^ k<=1000000000:=by have:10 ^ k<=10 ^ 9:=zA (by omega) h;simpa using this
section
variable {x2 x4:V}
theorem ajI{c:S}(hc:c.length<=9)(hd:∀x∈c,gL x=true){b b5:K}{h0:Hf}{n0:K}(gW:n0.num<=b.num){Q1:Ex->Env->Hf->K->Prop}
 (hQ:∀E' h' n',Ext h0 n0 h' n'->dK [(k2,x2),(k4,x4),(k5,.p b5 0),(k7,.i .u32 (dec c:Nat))] E'->Q1 .normal E' h' n'):
 ∀(m i:Nat) (h:Hf) (n:K),c.length - i=m->i<=c.length->h b=some (.it c.length (bp c) i)->Ext h0 n0 h n->WC C R4 [(k2,x2),(k4,x4),(k5,.p b5 0),(k7,.i .u32 (dec (c.take i):Nat)),(bf,.p b 0)] h n (blk 2 Q1):=by
 intro m
 induction m with
 | zero=>
  intro i h n hm hi hb e;have:i=c.length:=by omega
  subst this;refine aJ ?_;refine ζ<|Cj U (hb) (by omega)<|dG U U<|ε ?_;refine ξ<|ay U U<|bM (hQ _ _ _ e ⟨rfl,rfl,rfl,?_,trivial⟩);rw[gM];rfl
 | succ m ih=>
  intro i h n hm hi hb e;have ω:i<c.length:=by omega
  have sc:=AN (hd c[i] (fW _));have MM:dec (c.take (i+1))=10*dec (c.take i)+(c[i].toNat - 48):=by rw[pg ω];exact Vy 0 _ _
  have MN:dec (c.take i)<10 ^ i:=by
   have:=dec_lt (s:=c.take i) (λx hx=>hd x (wv hx));have oY:(c.take i).length=i:=by simp;omega
   rw[oY]at this;exact this
  have hp:10 ^ i<=10 ^ 8:=zA (by omega) (by omega);refine aJ ?_;refine ζ<|HQ U (hb) (by omega) <| λr w h1 R a1 b1=>dG U U<|ε ?_;refine ξ<|an U U<|ae<|aC ?_;obtain⟨er,ew⟩:r=(c[i]'ω).toNat/\w=1:=R.lo (by omega);subst er;subst ew;refine ζ<|dG U U<|γ U<|ε ?_;generalize hD:dec (c.take i)=D at*;refine aL<|γ U<|K9 U U (show(10:Int)*(D:Nat)=((10*D:Nat):Int) by omega) ⟨by omega,by omega⟩<|γ U<|mO U U (show((c[i].toNat:Nat):Int) - 48=((c[i].toNat - 48:Nat):Int) by omega) ⟨by omega,by omega⟩<|pB U ⟨by omega,by omega⟩<|lz U U (show((10*D:Nat):Int)+((c[i].toNat - 48:Nat):Int)=((10*D+(c[i].toNat - 48):Nat):Int) by omega) ⟨by omega,by omega⟩<|γ U<|ε ?_;rw[←MM];exact Γ (ih (i+1) h1 n (by omega) (by omega) a1 (e.aj b1 gW)) ⟨rfl,rfl,rfl,rfl,rfl,trivial⟩
end
theorem W5{E:Env}{k k':K}{v:V}{x:Bool}(h1:lk E k=some (.a [v]))(ho:v.one=true)(nj:lk E k'=some (.b x)):jh E [.ns,.b false] [(0,1,.t k),(1,1,.t k')]=some [v,.b x]:=by simp only[jh,ge,h1,nj,V.cells,fH,p9,bE,ho,eK,over];rfl
theorem ajJ(hC:Cd C){v:V}{l:List Nat}{ng:Bool}(hv:aQ h n .u32 v l)(hlen:l.length<1000000)(hQ:∀h' n',Ext h n h' n'->Q (.a [v,.b (ng&&!decide (l.length=0))]) h' n'):τ C (.f 264 [] []) [.a [v],.b ng] h n Q:=by
 refine τ.go hC.f264 U ?_;refine ζ<|et U (rfl) (fh hv.one) <| λh1 n1 dS a1 e1=>du <| λh2 n2 iL a2 e2=>ε ?_;have x2:=e1.trans e2;have c2:Cl h2 n2 n [v] 271:=Cl.ext ⟨by omega,a1⟩ e2;have l2:∀{h' n'},Ext h2 n2 h' n'->aX h' true 1 (.p n 0)=some (.a [v]):=λe=>bQ (c2.ext e).2 rfl;have lM:=hv.ext x2;have be:=mo (lM.below (χ _));have ve:=mq (φ.da lM);cases ng with
 | true=>
  refine dh<|aD U (l2 (Ext.refl _ _)) (be) (ve)<|ao U<|ao U<|bV U (rfl)<|aD U (l2 (Ext.refl _ _)) (be) (ve)<|bV U (rfl)<|cj U U<|FF hC lM hlen <| λh3 n3 e3=>bV U (rfl)<|rJ U<|yp U (rfl) U<|wR (W5 rfl hv.one U)<|fV U U ((e3.2 n1 (by omega)).trans a2) (dW rfl rfl (jx hv.one U)) <| λh4 a4 b4=>cG (⟨⟨Ω (by simp[Nat.testBit]),Ω (by simp[Nat.testBit]),trivial⟩,⟨Ω (by simp[Nat.testBit]),dj (l2 (Ext.refl _ _)) (l2 e3),trivial⟩,trivial⟩) ?_;refine Θ ⟨_,iO rfl (bQ a4 rfl),?_⟩;exact hQ h4 n3 ((x2.trans e3).aj b4 (by omega))
 | false=>
  refine dh<|aD U (l2 (Ext.refl _ _)) (be) (ve)<|ao U<|ao U<|cW U (rfl)<|cW U (rfl)<|cW U (rfl)<|vK U (rfl) U<|wR (W5 rfl hv.one U)<|fV U U (a2) (dW rfl rfl (jx hv.one U)) <| λh4 a4 b4=>cG (⟨⟨Ω (by simp[Nat.testBit]),trivial⟩,trivial⟩) ?_;refine Θ ⟨_,iO rfl (bQ a4 rfl),?_⟩;exact hQ h4 n2 (x2.aj b4 (by omega))
end
section
variable {C:Nat->Option bN}{h:Hf}{n:K}{Q:V->Hf->K->Prop}
theorem ajK{s:S}{j:Nat}(hj:9*j<=s.length):chunk s j++s.drop (s.length - 9*j)=s.drop (s.length - 9*(j+1)):=by
 unfold chunk;have e:s.length - 9*(j+1)=s.length - 9*j - 9:=by omega
 rw[e];have h2:s.length - 9*j - 9<=(s.take (s.length - 9*j)).length:=by simp
 rw[←List.drop_append_of_le_length h2,Bq]
theorem ajL(s:S)(j:Nat):(chunk s j).length<=9:=by unfold chunk;simp;omega
theorem ajM{s:S}{j:Nat}:∀c∈chunk s j,c∈s:=λc hc=>wv (Dw hc)
theorem W6(hC:Cd C){s:S}(hlen:s.length<1000)(hd:∀c∈body s,gL c=true)
 (hQ:∀v l h' n',Ext h n h' n'->aQ h' n' .u32 v l->eA Bg l->l.length<=s.length->val Bg l=dec (body s)->(v=.ns\/n.num<=v.blk.num)->Q (.a [v,.b (isNeg s&&!decide (l.length=0))]) h' n'):τ C (.f 218 [] []) [st s] h n Q:=by
 have hK:=Fb s;refine τ.go hC.f218 U ?_;refine ζ<|du <| λh1 n1 dS a1 e1=>ε ?_;refine ζ<|γ U<|ak U U<|Wy hC<|γ U<|dG U U<|dG U U<|γ U<|γ U<|ε ?_;have c2:Cl h1 n1 n [.ns,.b false] 273:=⟨by omega,a1⟩;generalize Ej:body s=t at*;generalize isNeg s=ng at*;refine ζ<|du <| λh2 n2 iL a2 e2=>ε ?_;have c5:Cl h2 n2 n1 [.ns] 269:=⟨by omega,a2⟩;refine ξ<|ζ<|γ U<|ak U U<|ajG hC (by omega) <| λh3 n3 e3 og a3=>ε ?_;have x3:Ext h1 n1 h3 n3:=e2.trans e3;let I:Nat->Hf->K->Prop:=λj h' n'=>∃vs l,Cl h' n' n1 [vs] 269/\Gr h1 n1 h' n' 316 1 vs l.length (nC .u32 l)/\l.length=j/\Sm Bg l/\val Bg l=dec (t.drop (t.length - 9*j))/\(vs=.ns\/n3.num<vs.blk.num);refine aC<|acL U (ajF hC (by omega)) (by omega) a3 I (λ_ _ _=>False) ?_ ?_ ?_ ?_ ?_ ?_ ?_ ?_
 ·rintro j h1 m1 h' n' ⟨vs,l,g1,g2,g3,g4,g5,g6⟩ ex;exact⟨vs,l,g1.ext ex,g2.on ex,g3,g4,g5,g6⟩
 ·rintro j h1 m1 h' ⟨vs,l,g1,g2,g3,g4,g5,g6⟩ bt;exact⟨vs,l,g1.aj bt (by omega),g2.aj bt (by omega) (g6.imp id λh=>by omega),g3,g4,g5,g6⟩
 ·rintro j h1 m1 h' ⟨vs,l,g1,g2,g3,g4,g5,g6⟩ bt;exact⟨vs,l,g1.aj bt (by omega),g2.aj bt (by omega) (g6.imp id λh=>by omega),g3,g4,g5,g6⟩
 ·intro j hj;rw[NI];rfl
 ·intro h' bt;have Nl:n3.succ.num=n3.num+1:=K.fQ n3;refine⟨.ns,[],((c5.ext e3).aj bt (by omega)).up (by omega),Gr.ns ((x3.aj bt (by omega)).succ),rfl,Sm.nil,?_,Or.inl U⟩;rw[kE,qb,gY];rfl
 ·rintro j hj h4 n4 E1 wj ⟨vs,l,g1,g2,g3,g4,g5,g6⟩ jb;have eN:j<(t.length+8) / 9:=by rw[IK]at hj;exact hj
  rw[NI]at jb;simp only[lV,p7]at jb;subst jb;have cl:=ajL t j;have cd:∀x∈chunk t j,gL x=true:=λx hx=>hd x (ajM x hx);have hD1:dec (chunk t j)<Bg:=by have h1:=dec_lt cd;have h2:=ajH cl;exact fk h1 h2
  have hD2:dec (t.drop (t.length - 9*(j+1)))=dec (chunk t j)*Bg ^ j+dec (t.drop (t.length - 9*j)):=by rw[←ajK (by omega),Iq];congr 2;rw[uv,show t.length - (t.length - 9*j)=9*j by omega,Nat.pow_mul]
  refine aL<|γ U<|ε ⟨rfl,χ _,rfl,rfl,λh5 b5=>?_⟩;have g15:=g1.aj b5 (by omega);have Zc:Gr h1 n1 h5 n4 316 1 vs l.length (nC .u32 l):=g2.aj b5 (by omega) (g6.imp id λh=>by omega);generalize chunk t j=ck at*;refine aC<|ζ<|γ U<|ε ?_;refine ξ<|ζ<|γ U<|HP U <| λh6 n6 oZ a6 e6=>ε ?_;refine aC<|Γ (ajI (x2:=.p n 0) (x4:=.b ng) (b5:=n1) cl cd (b:=n4) (h0:=h5) (n0:=n4) (χ _) ?_ _ 0 h6 n6 rfl (by omega) a6 e6) ⟨rfl,rfl,rfl,rfl,rfl,trivial⟩;intro E7 h7 n7 e7 hE;refine dQ hE ?_;have Zd:=g15.ext e7;have JK:=Zc.on e7;have z7:=e7.1;have z1:=Zd.1;generalize dec ck=D at*;have at7:=JK.lt;refine aL<|ν U (Zd.ld U _)<|γ U<|lu (rfl) <| λh8 n8 Gp a8 e8=>yr U ((JK.on e8).own) U (φ.whole (len:=1) (by omega) a8 rfl) (by omega) (by omega) (by omega) (by omega) U ((JK.on e8).lt) <| λv9 h9 n9 Ze Y7 hn9 xB=>bL U U ((xB _ (by omega) (g6.imp id λh=>by omega)).trans (Zd.ext e8).2) (Rk Ze.cells Ze.one U) <| λkC zd fT=>ε ?_;have O2:=(JK.on e8).app Ze Y7 hn9 xB;have NJ:de n1 h9 kC:=fT;have e2:nC .u32 l++[V.i .u32 (D:Nat)]=nC .u32 (l++[D]):=by rw[K7];rfl
  rw[e2]at O2;have k9:v9.blk.num=n8.num:=by rw[Y7]
  have gg:(l++[D]).length=l.length+1:=by simp
  refine⟨by omega,?_,?_,v9,l++[D],⟨by omega,zd⟩,?_,by rw[gg,g3],?_,?_,Or.inr (by omega)⟩
  ·rw[NJ _ (by omega),xB _ (by omega) (g6.imp id λh=>by omega),e8.2 _ (by omega),e7.2 _ (by omega)]
  ·rw[NJ _ (by omega),xB _ (by omega) (g6.imp id λh=>by omega),e8.2 _ (by omega),e7.2 _ (by omega)]
  ·rw[gg];exact O2.aj NJ (χ _) (Or.inr (by omega))
  ·intro x hx;rcases xP.1 hx with hx | hx
   ·exact g4 x hx
   ·simp at hx;rw[hx];exact hD1
  ·rw[yG,hD2,g5,g3];simp only[val,kE,kF];rw[dP D,rm]
 ·rintro h' n' tP ⟨vs,l,g1,g2,g3,g4,g5,g6⟩;rw[IK]at g3 g5;rw[show t.length - 9*((t.length+8) / 9)=0 by omega,jr]at g5;have il:aQ h' n' .u32 vs l:=g2.sl;have d2:=c2.ext g2.ext;refine ζ<|ν U (g1.ld U _)<|ak U U<|yN hC (χ _) il (by omega) <| λv5 h5 n5 e5 i5 hb5 xz=>mc (vT rfl i5.cells i5.one)<|γ U<|ak U U<|ajJ hC (i5.up e5.1) (by have:=AM l;omega) <| λh6 n6 e6=>bL U U (((d2.ext e5).ext e6).2) (dW rfl rfl (jx i5.one U)) <| λh7 a7 b7=>ε ?_;refine Θ ⟨_,iO rfl (bQ a7 rfl),?_⟩;have wM:=AM l;have x7:Ext h n h7 n6:=(((e1.trans g2.ext).trans e5).trans e6).aj b7 (χ _);have NC:v5=.ns\/n3.num<v5.blk.num:=g6.imp xz λh=>by rw[hb5];exact h
  exact hQ v5 (dd l) h7 n6 x7 (((i5.up e5.1).ext e6).aj b7 (NC.imp id λh=>by omega)) (rM g4) (by omega) (by rw[pG,g5]) (NC.imp id λh=>by omega)
 ·rintro ex h' n' qt tP hf;exact hf.elim
theorem W7(x:Bool):(V.b x).one=true:=rfl
theorem ajN{E:Env}{k k':K}{v w:V}{x y:Bool}(h1:lk E k=some (.a [v,.b x]))(ho:v.one=true)(nj:lk E k'=some (.a [w,.b y]))(nu:w.one=true):jh E [.ns,.b false,.ns,.b false] [(0,2,.t k),(2,2,.t k')]=some [v,.b x,w,.b y]:=by simp only[jh,ge,h1,nj,V.cells,fH,p9,bE,ho,nu,eK,over,W7];rfl
theorem ajO{v w:V}{x y:Bool}(h1:v.one=true)(h2:w.one=true):bE [v,.b x,w,.b y]=true:=by simp only[bE,h1,h2,W7];rfl
theorem ajP(hC:Cd C){s:S}(hlen:s.length<1000000)(hQ:∀h' n',Ext h n h' n'->Q (.i .i64 (nM s)) h' n'):τ C (.f 151 [] []) [st s] h n Q:=by
 refine τ.go hC.f151 U ?_;refine ζ<|γ U<|ε ?_;cases hc:cutAt s with
 | none=>
  have hs:lF s=none:=by unfold lF;rw[hc]
  have hv:qI s=.u [st s,st [],.b false]:=by unfold qI;rw[hc]
  have key:∀{Q:V->Hf->K->Prop},Q (.u [st s,st [],.b false]) h n->τ C (.f 191 [] []) [st s,st [47]] h n Q:=λhQ=>WB hC hlen (by rw[hv];exact hQ);refine ζ<|γ U<|ak U U<|key<|γ U<|dG U U<|dG U U<|dG U U<|γ U<|γ U<|γ U<|ε ?_;refine ξ<|ζ<|γ U<|di U<|γ U<|μ U (rfl)<|μ U (rfl)<|aS U (rfl) U<|ε ?_;refine an U U ?_;refine ζ<|γ U<|ε (Θ ⟨_,rfl,by have:=hQ h n (Ext.refl h n);rw[nM,hs]at this;exact this⟩)
 | some pq=>
  obtain⟨p,q⟩:=pq;have hv:qI s=.u [st p,st q,.b true]:=by unfold qI;rw[hc]
  have tN:=VA hc;have key:∀{Q:V->Hf->K->Prop},Q (.u [st p,st q,.b true]) h n->τ C (.f 191 [] []) [st s,st [47]] h n Q:=λhQ=>WB hC hlen (by rw[hv];exact hQ);refine ζ<|γ U<|ak U U<|key<|γ U<|dG U U<|dG U U<|dG U U<|γ U<|γ U<|γ U<|ε ?_;refine ξ<|ξ<|aL<|γ U<|di U<|γ U<|κ U U<|γ U<|κ U U<|ak U U<|aiH hC<|aK U U U<|ε ?_;by_cases wM:ic q=true
  ·have hs:lF s=none:=by unfold lF;rw[hc];simp only[wM,if_true]
   refine an U wM ?_;refine ζ<|γ U<|ε (Θ ⟨_,rfl,by have:=hQ h n (Ext.refl h n);rw[nM,hs]at this;exact this⟩)
  ·have hs:lF s=some (p,q):=by unfold lF;rw[hc];simp only[wM,if_false];rfl
   simp only[nM,hs]at hQ;refine ay U (by simpa using wM)<|ae ?_;refine ξ<|ζ<|γ U<|ak U U<|FD hC (by omega) <| λh1 n1 e1=>γ U<|ak U U<|FD hC (by omega) <| λh2 n2 e2=>lu U <| λh3 n3 og a3 e3=>ak U U<|Jm hC.f217 (l:=[gu p,gu q]) (φ.whole (len:=2) (by omega) a3 rfl) (by simp)<|γ U<|ε ?_;rw[yK];have x3:=(e1.trans e2).trans e3;refine ζ<|γ U<|dE U U<|ε ?_;by_cases hp:gu p=0
   ·by_cases hq:gu q=0
    ·refine ay U (by simp[hp,hq])<|ae ?_;simp only[hp,hq,ne_eq,not_true_eq_false,if_false]at hQ;obtain⟨fp,lp⟩:=Ct hp;obtain⟨Gw,lq⟩:=Ct hq;have tN:=IB hp;have Jr:=IB hq;obtain⟨dp,_⟩:=Fa fp;obtain⟨dq,_⟩:=Fa Gw;have hz:=Ms Gw;have jR:∀(b:Bool) h' n',Ext h3 n3 h' n'->b=decide (isNeg q=true\/dec (body q)=0\/Nat.gcd (dec (body p)) (dec (body q))≠1)->Q (.i .i64 (if b then 1 else 0)) h' n':=by
      intro b h' n' e hb;have:=hQ h' n' (x3.trans e);rw[hb];by_cases hc:(isNeg q=true\/dec (body q)=0\/Nat.gcd (dec (body p)) (dec (body q))≠1)
      ·rw[au hc]at this;simpa[hc]using this
      ·rw[Ξ hc]at this;simpa[hc]using this
     refine ζ<|γ U<|ak U U<|W6 hC (by omega) dp <| λv4 l4 h4 n4 e4 i4 r4 m4 t4 s4=>γ U<|ak U U<|W6 hC (by omega) dq <| λv5 l5 h5 n5 e5 i5 r5 m5 t5 s5=>mc (ajN rfl i4.one U i5.one)<|du <| λh6 n6 oZ a6 e6=>bL U U (a6) (dW rfl rfl (ajO i4.one i5.one)) <| λh7 a7 b7=>ε ?_;have x7:Ext h3 n3 h7 n6:=((e4.trans e5).trans e6).aj b7 (by have:=e4.1;have:=e5.1;omega);have x57:Ext h5 n5 h7 n6:=e6.aj b7 (χ _);have c7:Cl h7 n6 n5 [v4,.b (isNeg p&&!decide (l4.length=0)),v5,.b (isNeg q&&!decide (l5.length=0))] 276:=⟨by omega,a7⟩;have i47:=(i4.ext e5).ext x57;have i57:=i5.ext x57;have O1:l5.length=0↔dec (body q)=0:=by rw[←t5,val_zero (B:=Bg) r5.2 (by decide)];exact xG
     have ll4:l4.length<400:=by omega
     have ll5:l5.length<400:=by omega
     by_cases h0:dec (body q)=0
     ·have gH:=O1.2 h0;have uh:isNeg q=false:=by rw[hz.1 h0];rfl
      refine ζ<|ρ U<|ρ U<|ν U (dL c7.2 rfl _)<|γ U<|κ U (by simp[gH])<|ρ U<|κ U (by simp[gH])<|ρ U<|κ U (by simp[gH])<|ν U (bQ c7.2 rfl)<|κ U (by simp[gH])<|ak U U<|FF hC i57 (by omega) <| λh8 n8 e8=>aK U (by simp[gH]) U<|γ U<|μ U (by simp[gH])<|μ U (by simp[gH])<|μ U (by simp[gH])<|μ U (by simp[gH])<|μ U (by simp[gH])<|μ U (by simp[gH])<|μ U (by simp[gH])<|μ U (by simp[gH])<|μ U (by simp[gH])<|aS U (by simp[gH]) U<|ak U U<|sx hC.f215<|γ U<|ε ?_;refine Θ ⟨_,rfl,jR _ _ _ (x7.trans e8) ?_⟩;simp[h0]
     ·have gH:¬ l5.length=0:=λe=>h0 (O1.1 e);cases uh:isNeg q with
      | true=>
       refine ζ<|ρ U<|ρ U<|ν U (dL c7.2 rfl _)<|γ U<|μ U (by simp[gH,uh])<|μ U (by simp[gH,uh])<|μ U (by simp[gH,uh])<|μ U (by simp[gH,uh])<|aS U (by simp[gH,uh]) U<|γ U<|μ U (rfl)<|μ U (rfl)<|μ U (rfl)<|μ U (rfl)<|μ U (rfl)<|μ U (rfl)<|μ U (rfl)<|μ U (rfl)<|μ U (rfl)<|aS U (rfl) U<|ak U U<|sx hC.f215<|γ U<|ε ?_;refine Θ ⟨_,rfl,jR _ _ _ x7 ?_⟩;simp[uh]
      | false=>
       refine ζ<|ρ U<|ρ U<|ν U (dL c7.2 rfl _)<|γ U<|κ U (by simp[gH,uh])<|ρ U<|κ U (by simp[gH,uh])<|ρ U<|κ U (by simp[gH,uh])<|ν U (bQ c7.2 rfl)<|κ U (by simp[gH,uh])<|ak U U<|FF hC i57 (by omega) <| λh8 n8 e8=>aK U (by simp[gH,uh]) U<|γ U<|κ U (by simp[gH])<|ρ U<|κ U (by simp[gH])<|ρ U<|κ U (by simp[gH])<|ν U (bQ (c7.ext e8).2 rfl)<|κ U (by simp[gH])<|ρ U<|κ U (by simp[gH])<|ρ U<|κ U (by simp[gH])<|ν U (bQ (c7.ext e8).2 rfl)<|κ U (by simp[gH])<|ak U U<|ajE hC ll4 ll5 r4 r5 (i47.ext e8) (i57.ext e8) <| λvg g h9 n9 e9 i9 l9 r9 t9=>κ U (by simp[gH])<|ak U U<|aiI hC i9 (by omega) <| λkC eT oT=>κ U (by simp[gH])<|di U<|aK U (by simp[gH]) U<|ak U U<|sx hC.f215<|γ U<|ε ?_;refine Θ ⟨_,rfl,jR _ _ _ (((x7.trans e8).trans e9).trans oT) ?_⟩;rw[t4,t5]at t9;by_cases hg:g=[1]
       ·have:Nat.gcd (dec (body p)) (dec (body q))=1:=by rw[←t9,hg];rfl
        simp[hg,this,uh,h0]
       ·have:¬ Nat.gcd (dec (body p)) (dec (body q))=1:=λe=>hg (val_inj (B:=Bg) r9 ⟨Sm.cons (by decide) Sm.nil,λh=>by simp⟩ (by decide) (by rw[t9,e];rfl));simp[hg,this]
    ·refine an U (by simp[hp,hq]) ?_;simp only[hp,hq,ne_eq,not_true_eq_false,if_false,not_false_eq_true,if_true]at hQ ⊢;refine ζ<|γ U<|γ U<|ε (Θ ⟨_,rfl,hQ _ _ x3⟩)
   ·refine an U (by simp[hp]) ?_;simp only[hp,ne_eq,not_false_eq_true,if_true]at hQ ⊢;refine ζ<|γ U<|γ U<|ε (Θ ⟨_,rfl,hQ _ _ x3⟩)
end
section
variable {C:Nat->Option bN}{h:Hf}{n:K}{Q:V->Hf->K->Prop}
theorem w70(hC:Cd C){x:Nd}{vv kv:V}{i:Nat}(hv:vv.one=true)(hk:kv.one=true)(hl:x.name.length<1000000)(hQ:∀h' n',Ext h n h' n'->Q (.i .i64 (ke x)) h' n'):τ C (.f 70 [] []) [.a (oN x vv kv i)] h n Q:=by
 refine τ.go hC.f70 U ?_;refine ζ<|et U (rfl) (Cv x hv hk) <| λh1 n1 dS a1 e1=>γ U<|ε ?_;have cl:Cl h1 n1 n (oN x vv kv i) 113:=⟨by omega,a1⟩;have lo:aX h1 false 1 (.p n (0+0+0))=some (.i .i64 x.op):=cl.ld U _;have ln:aX h1 false 1 (.p n (0+0+2))=some (st x.name):=cl.ld U _;refine ξ<|ζ<|ρ U<|ρ U<|ν U (lo)<|ε ?_;have r6:∀(b:Bool) h2 n2,Ext h1 n1 h2 n2->ke x=(if b then 6 else 0)->Q (.i .i64 (if b then 6 else 0)) h2 n2:=λb h2 n2 e he=>by have:=hQ h2 n2 (e1.trans e);rw[he]at this;exact this
 refine aC<|ζ<|bm U U<|γ U<|ε ?_;refine cB U (λhx=>?_) (λhx=>?_)
 ·simp only[bA]at hx;by_cases nS:gu x.name=0
  ·refine ζ<|ρ U<|ρ U<|ν U (ln)<|ak U U<|FD hC hl <| λh2 n2 e2=>dE U U<|γ U<|μ U (by simp[nS])<|μ U (by simp[nS])<|μ U (by simp[nS])<|μ U (by simp[nS])<|μ U (by simp[nS])<|aK U (by simp[nS]) U<|ak U U<|sx hC.f38<|γ U<|ε ?_;exact Θ ⟨_,rfl,r6 _ _ _ e2 (by simp[ke,hx,isNumeral,nS])⟩
  ·have lnE:∀{h' n'},Ext h1 n1 h' n'->aX h' false 1 (.p n (0+0+2))=some (st x.name):=λe=>(cl.ext e).ld U _;refine ζ<|ρ U<|ρ U<|ν U ln<|ak U U<|FD hC hl <| λh2 n2 e2=>dE U U<|γ U<|κ U (by simp[nS])<|ρ U<|κ U (by simp[nS])<|ρ U<|κ U (by simp[nS])<|ν U (lnE e2)<|κ U (by simp[nS])<|ak U U<|ajP hC hl <| λh3 n3 e3=>κ U (by simp[nS])<|dE U U<|aS U (by simp[nS]) U<|ak U U<|sx hC.f38<|γ U<|ε<|Θ ⟨_,rfl,r6 _ _ _ (e2.trans e3) ?_⟩;by_cases hr:nM x.name=0<;>simp[ke,hx,isNumeral,nS,hr]
 simp only[cV]at hx;refine ζ<|bm U U<|γ U<|ε ?_;refine cB U (λjA=>?_) (λjA=>?_)
 ·simp only[bA]at jA;refine ζ<|ρ U<|ρ U<|ν U (ln)<|ak U U<|w42 hC hl <| λh2 n2 e2=>di U<|ak U U<|sx hC.f38<|γ U<|ε ?_;refine Θ ⟨_,rfl,r6 _ _ _ e2 ?_⟩;cases hp:rS x.name<;>simp[ke,jA,hp]
 simp only[cV]at jA;refine ζ<|bm U U<|γ U<|ε ?_;refine cB U (λmA=>?_) (λmA=>ae ?_)
 ·simp only[bA]at mA;refine ζ<|ρ U<|ρ U<|ν U (ln)<|en (b:=[]) U U<|ak U U<|sx hC.f38<|γ U<|ε ?_;refine Θ ⟨_,rfl,r6 _ _ _ (Ext.refl _ _) ?_⟩;by_cases hp:x.name=[]<;>simp[ke,mA,hp]
 simp only[cV]at mA;refine ζ<|ρ U<|ρ U<|ν U (ln)<|iP (b:=[]) U U<|ak U U<|sx hC.f38<|γ U<|ε ?_;refine Θ ⟨_,rfl,r6 _ _ _ (Ext.refl _ _) ?_⟩;by_cases hp:x.name=[]<;>simp[ke,hx,jA,mA,hp]
section
variable {x:Nd}{vv kv:V}{b:K}{pl:Nat}
theorem ajR(hC:Cd C){h0:Hf}{n0:K}(hv:ep h0 n0 vv x.vars)(sd:x.vars.length<1000)(AQ:∀v∈x.vars,v.1.length<1000000)(hb:Cl h0 n0 b (oN x vv kv pl) 113):
 ∀(m i:Nat) (h:Hf) (n:K),x.vars.length - i=m->i<=x.vars.length->Ext h0 n0 h n->(∀h' n',Ext h0 n0 h' n'->Q (.i .i64 (yL x.vars m i)) h' n')->WC C Sv [(k1,.p b 0),(cN,vv),(dt,.i .i64 (x.vars.length:Nat)),(dB,.i .i64 (i:Nat))] h n (blk 0 (sq C Sw (fq [.t k2] Q))):=by
 intro m
 induction m with
 | zero=>
  intro i h n hm hi e hQ;have:i=x.vars.length:=by omega
  subst this;refine aJ ?_;refine ζ<|aO U U<|ε ?_;refine ξ<|ay U (by simp)<|bM ?_;refine ζ<|γ U<|ε (Θ ⟨_,rfl,hQ _ _ e⟩)
 | succ m ih=>
  intro i h n hm hi e hQ;have ω:i<x.vars.length:=by omega
  simp only[yL,fO ω]at hQ;have MW:=AQ _ (fW ω);have nW:=hv.ext e;have jU:=hb.1;have hen:=e.1;refine aJ ?_;refine ζ<|aO U U<|ε ?_;refine ξ<|an U (by simp<;>omega)<|ae ?_;refine ξ<|aC<|ζ<|γ U<|bj U U (nW) (ω)<|ν U (nW.nF ω)<|du <| λh1 n1 dS a1 e1=>γ U<|bL U U (a1) (rfl) <| λh2 a2 b2=>ε ?_;have e2:Ext h n h2 n1:=e1.aj b2 (χ _);have c4:Cl h2 n1 n [st x.vars[i].1,st x.vars[i].2] 40:=⟨by omega,a2⟩;have cb:Cl h2 n1 b (oN x vv kv pl) 113:=(hb.ext e).ext e2;have lM:=nW.ext e2;have l0:∀{H:Hf},Ag n1 h2 H->aX H false 1 (.p n (0+0))=some (st x.vars[i].1):=λag=>(c4.ext (ag.x (χ _))).ld U _;have lv:∀{H:Hf},Ag n1 h2 H->aX H false 1 (.p b (0+0+3))=some vv:=λag=>(cb.ext (ag.x (χ _))).ld U _;have be:=lM.below (χ _);have ve:=φ.da lM;clear a1 a2 b2 e1;refine dh<|bX U<|aD U (l0 (Ag.refl _ _)) U (fA _ _)<|cj U U<|w42 hC MW <| λh3 n3 e3=>rJ U<|cj U U<|sx hC.f38<|bX U<|bX U<|aD U (lv e3.ag) (lM.below e3.1) (ve)<|ao U<|Rv U (ep.ext lM e3) U U (by omega) ((show i<=_ by omega)) <| λv4 i4 l4=>bX U<|aD U (l0 e3.ag) U (fA _ _)<|cj U U<|w95 hC (ep.sub i4 (by omega)) (by simp<;>omega) <| λh5 n5 e5=>cj U U<|sx hC.f38<|rK U <| λh6 n6 oZ a6 e6=>cj U U<|Jm hC.f25 (l:=[if (!rS x.vars[i].1) then 6 else 0,if decide (x.vars[i].1∈((x.vars.drop 0).take (i - 0)).map Prod.fst) then 7 else 0]) (φ.whole (len:=2) (by omega) a6 rfl) (by simp)<|ao U<|cG (⟨⟨Ω (by simp[Nat.testBit]),Ω (by simp[Nat.testBit]),Ω (by simp[Nat.testBit]),dj (l0 (e3.ag.hp n5 none (by have:=e3.1;have:=e5.1;omega))) (l0 (e3.ag.hp n5 none (by have:=e3.1;have:=e5.1;omega))),dj (l0 ((Ag.refl _ _).hp n5 none (by have:=e3.1;have:=e5.1;omega))) (l0 (e3.ag.hp n5 none (by have:=e3.1;have:=e5.1;omega))),trivial⟩,⟨Ω (by simp[Nat.testBit]),Ω (by simp[Nat.testBit]),Ω (by simp[Nat.testBit]),dj (lv (e3.ag.hp n5 none (by have:=e3.1;have:=e5.1;omega))) (lv (e3.ag.hp n5 none (by have:=e3.1;have:=e5.1;omega))),dj (lv ((Ag.refl _ _).hp n5 none (by have:=e3.1;have:=e5.1;omega))) (lv (e3.ag.hp n5 none (by have:=e3.1;have:=e5.1;omega))),trivial⟩,⟨Ω (by simp[Nat.testBit]),Ω (by simp[Nat.testBit]),Ω (by simp[Nat.testBit]),Ω (by simp[Nat.testBit]),Ω (by simp[Nat.testBit]),trivial⟩,trivial⟩) ?_
  rw[yK,jr,qb];have e36:Ext h2 n1 h6 n6:=(e3.trans e5).trans e6;have zk:=(e.trans e2).trans e36;refine ζ<|γ U<|dE U U<|ε ?_;cases hp:rS x.vars[i].1 with
  | false=>
   rw[hp]at hQ;refine an U (by simp) ?_;refine ζ<|γ U<|γ U<|ε (Θ ⟨_,rfl,?_⟩);have:=hQ h6 n6 zk;simp at this ⊢;exact this
  | true=>
   rw[hp]at hQ;by_cases hc:x.vars[i].1∈(x.vars.take i).map Prod.fst
   ·rw[Ξ (by simp),au hc]at hQ;refine an U (by rw[rj hc];simp) ?_;refine ζ<|γ U<|γ U<|ε (Θ ⟨_,rfl,?_⟩);have:=hQ h6 n6 zk;rw[rj hc];simp;exact this
   ·rw[Ξ (by simp),Ξ hc]at hQ;refine ay U (by rw[gj hc];simp)<|ae ?_;refine aL<|cU U U ⟨by omega,by omega⟩<|γ U<|ε ?_;exact Γ (ih (i+1) h6 n6 (by omega) (by omega) zk hQ) ⟨rfl,rfl,rfl,rfl,trivial⟩
theorem w71(hC:Cd C)(hv:ep h n vv x.vars)(hk:kv.one=true)(sd:x.vars.length<1000)(AQ:∀v∈x.vars,v.1.length<1000000)(hQ:∀h' n',Ext h n h' n'->Q (.i .i64 (kf x)) h' n'):τ C (.f 71 [] []) [.a (oN x vv kv pl)] h n Q:=by
 refine τ.go hC.f71 U ?_;refine ζ<|et U (rfl) (Cv x (φ.one hv) hk) <| λh1 n1 dS a1 e1=>γ U<|ε ?_;have hb:Cl h1 n1 n (oN x vv kv pl) 113:=⟨by omega,a1⟩;have lv:aX h1 false 1 (.p n (0+0+3))=some vv:=hb.ld U _;have lo:aX h1 false 1 (.p n (0+0+0))=some (.i .i64 x.op):=hb.ld U _;have mT:=hv.ext e1;have go:kf x=yL x.vars x.vars.length 0->WC C Lq [(k1,.p n 0)] h1 n1 (fq [.t k2] Q):=by intro he;refine ξ<|ζ<|ρ U<|ρ U<|ν U (lv)<|az U (mT)<|γ U<|ε ?_;exact aC<|Γ (ajR hC mT sd AQ hb _ 0 h1 n1 rfl (by omega) (Ext.refl _ _) (λh' n' e=>by rw[qb,←he];exact hQ _ _ (e1.trans e))) ⟨rfl,rfl,rfl,rfl,trivial⟩
 have bad:kf x=5->WC C Su [] h1 n1 (sq C Lq (fq [.t k2] Q)):=by intro he;have hQ:=hQ h1 n1 e1;rw[he]at hQ;refine ζ<|γ U<|ε (Θ ⟨_,rfl,hQ⟩)
 by_cases hq:x.op=17\/x.op=18
 ·have dq:decide (x.op=17\/x.op=18)=true:=rj hq;have cq:∀{Q:V->Hf->K->Prop},Q (.b true) h1 n1->τ C (.f 104 [] []) [.i .i64 x.op] h1 n1 Q:=λhQ=>AH hC.f104 (by rw[dq];exact hQ);by_cases h1:x.vars.length<1
  ·refine ξ<|ζ<|ρ U<|ρ U<|ν U (lo)<|ak U U<|cq<|di U<|γ U<|μ U (rfl)<|μ U (rfl)<|μ U (rfl)<|μ U (rfl)<|μ U (rfl)<|aK U (rfl) U<|γ U<|κ U (rfl)<|ρ U<|κ U (rfl)<|ρ U<|κ U (rfl)<|ν U (lo)<|κ U (rfl)<|ak U U<|cq<|κ U (rfl)<|γ U<|κ U (rfl)<|ρ U<|κ U (rfl)<|ρ U<|κ U (rfl)<|ν U (lv)<|κ U (rfl)<|az U (mT)<|κ U (rfl)<|aO U U<|κ U (rfl)<|γ U<|μ U (by simp<;>omega)<|μ U (by simp<;>omega)<|μ U (by simp<;>omega)<|μ U (by simp<;>omega)<|μ U (by simp<;>omega)<|κ U (rfl)<|aS U (by simp<;>omega) U<|κ U (rfl)<|aS U (rfl) U<|aK U (rfl) U<|ε ?_;exact an U (by simp<;>omega)<|Γ (bad (by simp only[kf,au hq,au (Or.inl h1)])) trivial
  ·refine ξ<|ζ<|ρ U<|ρ U<|ν U (lo)<|ak U U<|cq<|di U<|γ U<|μ U (rfl)<|μ U (rfl)<|μ U (rfl)<|μ U (rfl)<|μ U (rfl)<|aK U (rfl) U<|γ U<|κ U (rfl)<|ρ U<|κ U (rfl)<|ρ U<|κ U (rfl)<|ν U (lo)<|κ U (rfl)<|ak U U<|cq<|κ U (rfl)<|γ U<|κ U (rfl)<|ρ U<|κ U (rfl)<|ρ U<|κ U (rfl)<|ν U (lv)<|κ U (rfl)<|az U (mT)<|κ U (rfl)<|aO U U<|κ U (rfl)<|γ U<|κ U (by simp<;>omega)<|ρ U<|κ U (by simp<;>omega)<|ρ U<|κ U (by simp<;>omega)<|ν U (lv)<|κ U (by simp<;>omega)<|az U (mT)<|κ U (by simp<;>omega)<|cS U U<|κ U (rfl)<|aK U (by simp<;>omega) U<|κ U (rfl)<|aS U (rfl) U<|aK U (rfl) U<|ε ?_;by_cases h2:12<x.vars.length
   ·exact an U (by simp<;>omega)<|Γ (bad (by simp only[kf,au hq,au (Or.inr h2)])) trivial
   ·exact ay U (by simp<;>omega)<|ae<|Γ (go (by simp only[kf,au hq];rw[Ξ (by omega)])) ⟨rfl,trivial⟩
 ·have dq:decide (x.op=17\/x.op=18)=false:=gj hq;have cq:∀{Q:V->Hf->K->Prop},Q (.b false) h1 n1->τ C (.f 104 [] []) [.i .i64 x.op] h1 n1 Q:=λhQ=>AH hC.f104 (by rw[dq];exact hQ);by_cases h2:0<x.vars.length
  ·refine ξ<|ζ<|ρ U<|ρ U<|ν U (lo)<|ak U U<|cq<|di U<|γ U<|κ U (rfl)<|ρ U<|κ U (rfl)<|ρ U<|κ U (rfl)<|ν U (lv)<|κ U (rfl)<|az U (mT)<|κ U (rfl)<|cS U U<|aS U (rfl) U<|γ U<|μ U (by simp<;>omega)<|μ U (by simp<;>omega)<|μ U (by simp<;>omega)<|μ U (by simp<;>omega)<|μ U (by simp<;>omega)<|eI U<|eI U<|eI U<|eI U<|eI U<|eI U<|eI U<|eI U<|eI U<|eI U<|eI U<|eI U<|μ U (by simp<;>omega)<|aS U (by simp<;>omega) U<|ε ?_;exact an U (by simp<;>omega)<|Γ (bad (by simp only[kf,Ξ hq,au h2])) trivial
  ·refine ξ<|ζ<|ρ U<|ρ U<|ν U (lo)<|ak U U<|cq<|di U<|γ U<|κ U (rfl)<|ρ U<|κ U (rfl)<|ρ U<|κ U (rfl)<|ν U (lv)<|κ U (rfl)<|az U (mT)<|κ U (rfl)<|cS U U<|aS U (rfl) U<|γ U<|κ U (gj (show ¬ (0:Int)<((x.vars.length:Nat):Int) by omega))<|ρ U<|κ U (gj (show ¬ (0:Int)<((x.vars.length:Nat):Int) by omega))<|ρ U<|κ U (gj (show ¬ (0:Int)<((x.vars.length:Nat):Int) by omega))<|ν U (lo)<|κ U (gj (show ¬ (0:Int)<((x.vars.length:Nat):Int) by omega))<|ak U U<|cq<|κ U (gj (show ¬ (0:Int)<((x.vars.length:Nat):Int) by omega))<|γ U<|μ U (rfl)<|μ U (rfl)<|μ U (rfl)<|μ U (rfl)<|μ U (rfl)<|μ U (rfl)<|eI U<|eI U<|eI U<|eI U<|eI U<|μ U (rfl)<|κ U (gj (show ¬ (0:Int)<((x.vars.length:Nat):Int) by omega))<|aK U (rfl) U<|aK U (gj (show ¬ (0:Int)<((x.vars.length:Nat):Int) by omega)) U<|ε ?_;refine ay U U<|ae<|Γ (go ?_) ⟨rfl,trivial⟩;have:x.vars.length=0:=by omega
   simp only[kf,Ξ hq,Ξ h2,this];rfl
end
end
section
variable {C:Nat->Option bN}{h:Hf}{n:K}{Q:V->Hf->K->Prop}
def conn:List V:=[.s 4 1702195828,.i .i64 0,.s 4 1819242306,.f 349 [] [],.s 5 435728179558,.i .i64 0,.s 4 1819242306,.f 349 [] [],.s 0 0,.i .i64 0,.s 1 110,.f 349 [] [],.s 0 0,.i .i64 0,.s 1 115,.f 349 [] [],.s 0 0,.i .i64 (-1),.s 1 115,.nf,.s 3 7630702,.i .i64 1,.s 4 1819242306,.f 349 [] [],.s 3 6581857,.i .i64 (-1),.s 4 1819242306,.f 349 [] [],.s 2 29295,.i .i64 (-1),.s 4 1819242306,.f 349 [] [],.s 2 15933,.i .i64 2,.s 4 1819242306,.f 349 [] [],.s 3 6710889,.i .i64 2,.s 4 1819242306,.f 349 [] [],.s 3 6648937,.i .i64 3,.s 1 115,.f 350 [] [],.s 1 61,.i .i64 2,.s 4 1819242306,.f 351 [] [],.s 1 43,.i .i64 2,.s 1 110,.f 352 [] [],.s 1 45,.i .i64 2,.s 1 110,.f 352 [] [],.s 1 42,.i .i64 2,.s 1 110,.f 352 [] [],.s 1 60,.i .i64 2,.s 4 1819242306,.f 352 [] [],.s 2 15676,.i .i64 2,.s 4 1819242306,.f 352 [] [],.s 6 119212747157350,.i .i64 (-2),.s 4 1819242306,.f 353 [] [],.s 6 126943989692517,.i .i64 (-2),.s 4 1819242306,.f 354 [] [],.s 1 33,.i .i64 (-2),.s 1 45,.nf]
def Gl(h:Hf)(n:K):Prop:=k0.num<n.num/\h k0=some (.r conn)
theorem Gl.ext{h':Hf}{n':K}(a:Gl h n)(e:Ext h n h' n'):Gl h' n':=⟨fk a.1 e.1,by rw[e.2 _ a.1];exact a.2⟩
theorem Gl.ld(a:Gl h n){o:Nat}{v:V}(hv:nth conn o=some v)(sz:Nat):aX h false sz (.p k0 o)=some v:=by simp only[aX,jg,a.2,O.row,cond_false];exact hv
def oU(o:Nat):S:=if o=2\/o=12\/o=13\/o=14 then [110] else if o=3\/o=4\/o=10 then [115] else if o=19 then [45] else Cw
def yP(o:Nat):Int:=if o=0\/o=1\/o=2\/o=3 then 0 else if o=4\/o=6\/o=7 then -1 else if o=5 then 1 else if o=10 then 3 else if o=17\/o=18\/o=19 then -2 else 2
theorem W8{o:Nat}(h:o<20):nth conn (0+o*4+2)=some (st (oU o))/\nth conn (0+o*4+1)=some (.i .i64 (yP o)):=by
 have:o=0\/o=1\/o=2\/o=3\/o=4\/o=5\/o=6\/o=7\/o=8\/o=9\/o=10\/o=11\/o=12\/o=13\/o=14\/o=15\/o=16\/o=17\/o=18\/o=19:=by omega
 rcases this with rfl | rfl | rfl | rfl | rfl | rfl | rfl | rfl | rfl | rfl | rfl | rfl | rfl | rfl | rfl | rfl | rfl | rfl | rfl | rfl<;>exact⟨rfl,rfl⟩
def A2(x:Nd):Bool:=
 if oU x.op.toNat=[110] then !decide (x.sort=nO\/x.sort=oO)||(decide (x.op=2)&&(decide (gu x.name=0)!=decide (x.sort=nO)))
 else if oU x.op.toNat=[115] then decide (x.sort=[]) else if oU x.op.toNat=[45] then !decide (x.sort=[]) else !decide (x.sort=oU x.op.toNat)
theorem w72(hC:Cd C){x:Nd}{vv kv:V}{i:Nat}(hg:Gl h n)(eW:0<=x.op/\x.op<20)(hv:vv.one=true)(hk:kv.one=true)(hl:x.name.length<1000000)(hQ:∀h' n',Ext h n h' n'->Q (.i .i64 (if A2 x then 13 else 0)) h' n'):τ C (.f 72 [] []) [.a (oN x vv kv i)] h n Q:=by
 obtain⟨o,ho⟩:∃o:Nat,x.op=(o:Nat):=⟨x.op.toNat,by omega⟩;have IL:o<20:=by omega
 have iW:x.op.toNat=o:=by omega
 refine τ.go hC.f72 U ?_;refine ζ<|et U (rfl) (Cv x hv hk) <| λh1 n1 dS a1 e1=>γ U<|ε ?_;have cl:Cl h1 n1 n (oN x vv kv i) 113:=⟨by omega,a1⟩;have lo:∀{h' n'},Ext h1 n1 h' n'->aX h' false 1 (.p n (0+0+0))=some (.i .i64 (o:Nat)):=λe=>by rw[←ho];exact(cl.ext e).ld U _
 have ls:∀{h' n'},Ext h1 n1 h' n'->aX h' false 1 (.p n (0+0+1))=some (st x.sort):=λe=>(cl.ext e).ld U _;have ln:∀{h' n'},Ext h1 n1 h' n'->aX h' false 1 (.p n (0+0+2))=some (st x.name):=λe=>(cl.ext e).ld U _;have Fp:=hg.ext e1;have rr:=Ext.refl h1 n1;refine ζ<|γ U<|ε ?_;refine ξ<|ζ<|ρ U<|ρ U<|ν U (lo rr)<|wT U U (by omega)<|ρ U<|ν U (Fp.ld (W8 IL).1 _)<|γ U<|ε ?_;have fin:∀(b:Bool) h2 n2,Ext h1 n1 h2 n2->A2 x=b->WC C Sz [(k3,.b b)] h2 n2 (fq [.t k2] Q):=by intro b h2 n2 e2 hb;have:=hQ h2 n2 (e1.trans e2);rw[hb]at this;refine ζ<|γ U<|ak U U<|sx hC.f38<|γ U<|ε (Θ ⟨_,rfl,this⟩)
 unfold A2 at fin;rw[iW,ho]at fin;generalize oU o=cs at*;refine ζ<|γ U<|ε ?_;refine aC<|ζ<|en (b:=[110]) U U<|γ U<|ε ?_;refine cB U (λhx=>?_) (λhx=>?_)
 ·simp only[bA]at hx;rw[au hx]at fin;by_cases hs:x.sort=nO\/x.sort=oO
  ·have ds:decide (x.sort=nO\/x.sort=oO)=true:=rj hs;rw[ds]at fin;have IM:∀{Q:V->Hf->K->Prop},Q (.b true) h1 n1->τ C (.f 152 [] []) [st x.sort] h1 n1 Q:=λhQ=>VJ hC (by rw[ds];exact hQ);by_cases h2:o=2
   ·subst h2;have:((2:Nat):Int)=2:=rfl;refine uG<|bX U<|bX U<|aD U (ls rr) U (fA _ _)<|cj U U<|IM<|rJ U<|ao U<|bV U (rfl)<|bX U<|bV U (rfl)<|bX U<|bV U (rfl)<|aD U (lo rr) U (fK _ _)<|bV U (rfl)<|Aj U U<|bV U (rfl)<|ao U<|bV U (rfl)<|bX U<|bV U (rfl)<|bX U<|bV U (rfl)<|aD U (ln rr) U (fA _ _)<|bV U (rfl)<|cj U U<|FD hC hl <| λh2 n2 e2=>bV U (rfl)<|Aj U U<|bV U (rfl)<|bX U<|bV U (rfl)<|bX U<|bV U (rfl)<|aD U (ls e2) U (fA _ _)<|bV U (rfl)<|Ak (b:=[73,110,116]) U U<|bV U (rfl)<|acF U U<|bV U (rfl)<|yp U (rfl) U<|vK U (rfl) U<|ao U<|cG (⟨⟨dj (ls rr) (ls e2),Ω (by simp[Nat.testBit]),trivial⟩,⟨Ω (by simp[Nat.testBit]),Ω (by simp[Nat.testBit]),trivial⟩,⟨Ω (by simp[Nat.testBit]),Ω (by simp[Nat.testBit]),trivial⟩,⟨Ω (by simp[Nat.testBit]),Ω (by simp[Nat.testBit]),trivial⟩,trivial⟩) ?_;exact Γ (fin _ h2 n2 e2 (by simp;rfl)) ⟨rfl,trivial⟩
   ·refine uG<|bX U<|bX U<|aD U (ls rr) U (fA _ _)<|cj U U<|IM<|rJ U<|ao U<|bV U (rfl)<|bX U<|bV U (rfl)<|bX U<|bV U (rfl)<|aD U (lo rr) U (fK _ _)<|bV U (rfl)<|Aj U U<|bV U (rfl)<|ao U<|cW U (by simp<;>omega)<|cW U (by simp<;>omega)<|cW U (by simp<;>omega)<|cW U (by simp<;>omega)<|cW U (by simp<;>omega)<|cW U (by simp<;>omega)<|cW U (by simp<;>omega)<|cW U (by simp<;>omega)<|cW U (by simp<;>omega)<|cW U (by simp<;>omega)<|bV U (rfl)<|vK U (by simp<;>omega) U<|vK U (rfl) U<|ao U<|cG (⟨⟨Ω (by simp[Nat.testBit]),trivial⟩,⟨Ω (by simp[Nat.testBit]),trivial⟩,trivial⟩) ?_;exact Γ (fin false h1 n1 rr (by simp;omega)) ⟨rfl,trivial⟩
  ·have ds:decide (x.sort=nO\/x.sort=oO)=false:=gj hs;rw[ds]at fin;have IM:∀{Q:V->Hf->K->Prop},Q (.b false) h1 n1->τ C (.f 152 [] []) [st x.sort] h1 n1 Q:=λhQ=>VJ hC (by rw[ds];exact hQ);refine uG<|bX U<|bX U<|aD U (ls rr) U (fA _ _)<|cj U U<|IM<|rJ U<|ao U<|cW U (rfl)<|cW U (rfl)<|cW U (rfl)<|cW U (rfl)<|cW U (rfl)<|uH U<|uH U<|uH U<|uH U<|uH U<|uH U<|uH U<|uH U<|uH U<|uH U<|cW U (rfl)<|yp U (rfl) U<|ao U<|cG (⟨⟨Ω (by simp[Nat.testBit]),trivial⟩,trivial⟩) ?_;exact Γ (fin true h1 n1 rr rfl) ⟨rfl,trivial⟩
 simp only[cV]at hx;rw[Ξ hx]at fin;refine ζ<|en (b:=[115]) U U<|γ U<|ε ?_;refine cB U (λjA=>?_) (λjA=>?_)
 ·simp only[bA]at jA;rw[au jA]at fin;refine aL<|ρ U<|ρ U<|ν U (ls rr)<|en (b:=[]) U U<|γ U<|ε ?_;exact Γ (fin _ h1 n1 rr rfl) ⟨rfl,trivial⟩
 simp only[cV]at jA;rw[Ξ jA]at fin;refine ζ<|en (b:=[45]) U U<|γ U<|ε ?_;refine cB U (λmA=>?_) (λmA=>?_)
 ·simp only[bA]at mA;rw[au mA]at fin;refine aL<|ρ U<|ρ U<|ν U (ls rr)<|iP (b:=[]) U U<|γ U<|ε ?_;exact Γ (fin _ h1 n1 rr rfl) ⟨rfl,trivial⟩
 simp only[cV]at mA;rw[Ξ mA]at fin;refine aL<|ρ U<|ρ U<|ν U (ls rr)<|γ U<|iP U U<|γ U<|ε ?_;exact Γ (fin _ h1 n1 rr rfl) ⟨rfl,trivial⟩
theorem ajS{s:S}(h:gu s=0):nM s≠0:=by
 obtain⟨hf,_⟩:=Ct h;obtain⟨hd,_⟩:=Fa hf;have D4:ic s=false:=by
  cases hs:ic s with
  | false=>rfl
  | true=>
   obtain⟨c,hc,he⟩:=List.any_eq_true.1 hs;simp only[bA]at he;exfalso;cases s with
   | nil=>cases hc
   | cons d l=>
    by_cases W9:d.toNat=45
    ·rcases fX.1 hc with rfl | hc
     ·omega
     ·have hb:body (d::l)=l:=by simp[body,W9]
      have:=AN (hd c (by rw[hb];exact hc));omega
    ·have hb:body (d::l)=d::l:=by simp[body,W9]
     have:=AN (hd c (by rw[hb];exact hc));omega
 have hs:lF s=none:=by unfold lF;rw[Mq D4]
 unfold nM;rw[hs];simp
theorem ajT{x:Nd}(eW:0<=x.op/\x.op<20)(hn:ke x=0):(if A2 x then 13 else 0)=nP x:=by
 obtain⟨o,ho⟩:∃o:Nat,x.op=(o:Nat):=⟨x.op.toNat,by omega⟩;have iW:x.op.toNat=o:=by omega
 unfold A2 nP;rw[iW];unfold ke at hn;rw[ho]at hn ⊢;have i2:((o:Int)=2)↔o=2:=by omega
 have i3:((o:Int)=3)↔o=3:=by omega
 have i4:((o:Int)=4)↔o=4:=by omega
 have i10:((o:Int)=10)↔o=10:=by omega
 have i12:((o:Int)=12)↔o=12:=by omega
 have i13:((o:Int)=13)↔o=13:=by omega
 have i14:((o:Int)=14)↔o=14:=by omega
 have i19:((o:Int)=19)↔o=19:=by omega
 simp only[i2,i3,i4,i10,i12,i13,i14,i19]at hn ⊢;by_cases h2:o=2
 ·subst h2;have hc:oU 2=[110]:=rfl;rw[hc,au rfl,au rfl];rw[au rfl]at hn;have nS:gu x.name=0\/nM x.name=0:=by
   cases hi:isNumeral x.name with
   | true=>simpa[isNumeral]using hi
   | false=>rw[hi]at hn;simp at hn
  have YB:x.sort=nO->¬ x.sort=oO:=λe=>by rw[e];decide
  have hsR:x.sort=oO->¬ x.sort=nO:=λe=>by rw[e];decide
  by_cases h1:x.sort=nO
  ·have:=YB h1;by_cases h3:gu x.name=0
   ·simp[h1,h3]
   ·simp[h1,h3]
  ·by_cases h4:x.sort=oO
   ·have:=hsR h4;by_cases h3:gu x.name=0
    ·have:=ajS h3;simp[h1,h4,h3,this]
    ·have:nM x.name=0:=nS.resolve_left h3;simp[h1,h4,h3,this]
   ·simp[h1,h4]
 ·rw[Ξ h2];by_cases jO:o=12\/o=13\/o=14
  ·have hc:oU o=[110]:=by simp[oU,jO]
   rw[hc,au rfl,au jO];by_cases h1:x.sort=nO\/x.sort=oO<;>simp[h1,h2]
  ·rw[Ξ jO];have NK:¬ (o=2\/o=12\/o=13\/o=14):=λh=>by omega
   by_cases h3:o=3\/o=4\/o=10
   ·have hc:oU o=[115]:=by unfold oU;rw[Ξ NK,au h3]
    rw[hc,au h3];by_cases h1:x.sort=[]<;>simp[h1]
   ·rw[Ξ h3];by_cases FV:o=19
    ·have hc:oU o=[45]:=by unfold oU;rw[Ξ NK,Ξ h3,au FV]
     rw[hc,au FV];by_cases h1:x.sort=[]<;>simp[h1]
    ·have hc:oU o=Cw:=by unfold oU;rw[Ξ NK,Ξ h3,Ξ FV]
     rw[hc,Ξ FV];by_cases h1:x.sort=Cw<;>simp[h1]
theorem ajU{o:Nat}(h:o<20)(k:Nat):iV (o:Int) k=!(decide (0<=yP o/\(k:Int)≠yP o)||decide (yP o = -2/\k=0)):=by
 have:o=0\/o=1\/o=2\/o=3\/o=4\/o=5\/o=6\/o=7\/o=8\/o=9\/o=10\/o=11\/o=12\/o=13\/o=14\/o=15\/o=16\/o=17\/o=18\/o=19:=by omega
 rcases this with rfl | rfl | rfl | rfl | rfl | rfl | rfl | rfl | rfl | rfl | rfl | rfl | rfl | rfl | rfl | rfl | rfl | rfl | rfl | rfl<;>simp[iV,yP]<;>(try omega)<;>(cases k<;>simp<;>omega)
end
section
variable {C:Nat->Option bN}{h:Hf}{n:K}{Q:V->Hf->K->Prop}
theorem ajV{ts:List Nd}:∀(j i m:Nat),(∀k,k<j->nQ ts (i+k)=0)->nQ ts (i+j)≠0->j<m->mn ts m i=nQ ts (i+j):=by
 intro j
 induction j with
 | zero=>
  intro i m hz aR hm;cases m with
  | zero=>omega
  | succ m=>rw[kF]at aR;rw[mn,au aR,kF]
 | succ j ih=>
  intro i m hz aR hm;cases m with
  | zero=>omega
  | succ m=>
   rw[mn,Ξ (by simpa using hz 0 (by omega)),ih (i+1) m (λk hk=>by rw[show i+1+k=i+(k+1) by omega];exact hz _ (by omega)) (by rw[show i+1+j=i+(j+1) by omega];exact aR) (by omega)];congr 1;omega
theorem ajW{ts:List Nd}:∀(m i:Nat),(∀k,k<m->nQ ts (i+k)=0)->mn ts m i=0:=by
 intro m
 induction m with
 | zero=>intro i hz;rfl
 | succ m ih=>
  intro i hz;rw[mn,Ξ (by simpa using hz 0 (by omega))];exact ih (i+1) λk hk=>by rw[show i+1+k=i+(k+1) by omega];exact hz _ (by omega)
theorem NL{ts:List Nd}{i:Nat}(hi:i<ts.length)(h:nQ ts i=0):ord ts i=true:=by
 rw[ID hi]at h;by_cases h5:ml ts ts[i] i=0
 ·exact MX h5
 ·rw[au h5]at h;exact absurd h h5
section
variable {b1 b2 b4:K}{t vv kv:V}{ts:List Nd}{i:Nat}
theorem ajX(hC:Cd C)(hb:Bd ts)(hg:Gl h n)(hi:i<ts.length)(ht:dA h n t ts)(hv:ep h n vv ts[i].vars)(hk:eL h n .i64 kv ts[i].kids)(ho:∀j,j<i->ord ts j=true)
 (c1:Cl h n b1 [t] 23)(c2:Cl h n b2 [.i .i64 0] 26)(cl:Cl h n b4 (oN ts[i] vv kv i) 113){Q1:Ex->Env->Hf->K->Prop}
 (kL:∀e h1 h' n' E',e=nQ ts i->e≠0->Ext h n h1 n'->de b2 h1 h'->h' b2=some (.c [.i .i64 e] 26 0)->Q1 .ret E' h' n')
 (jj:nQ ts i=0->∀h' n' E',Ext h n h' n'->Q1 .normal E' h' n'):
 WC C RT [(k1,.p b1 0),(k2,.p b2 0),(k4,.p b4 0)] h n Q1:=by
 have hlen:=hb.len;have aR:=ID hi;have hO:ml ts ts[i] i=if rT ts[i].op then 11 else if iV ts[i].op ts[i].kids.length=false then 2 else if ord ts i=false then 9 else 0:=by unfold ml;rw[MO];cases rT ts[i].op<;>cases iV ts[i].op ts[i].kids.length<;>cases ord ts i<;>simp
 have lo:aX h false 1 (.p b4 (0+0+0))=some (.i .i64 ts[i].op):=cl.ld U _;by_cases FW:rT ts[i].op=true
 ·rw[hO,au FW,au (by decide)]at aR;have fin:∀E,dK [(k2,.p b2 0)] E->WC C RQ E h n (sq C RS Q1):=by
   intro E hE;refine dQ hE ?_;refine ζ<|bL U U (c2.2) (rfl) <| λh7 a7 b7=>ε ?_;exact Θ (kL 11 h h7 n _ aR.symm (by decide) (Ext.refl _ _) b7 a7)
  by_cases h0:ts[i].op<0
  ·refine ξ<|ζ<|ρ U<|ρ U<|ν U (lo)<|aO U U<|γ U<|μ U (by simp[h0])<|μ U (by simp[h0])<|μ U (by simp[h0])<|μ U (by simp[h0])<|aS U (by simp[h0]) U<|ε ?_;exact an U (by simp[h0])<|fin _ ⟨rfl,trivial⟩
  ·have JL:20<=ts[i].op:=by simpa[rT,h0]using FW
   refine ξ<|ζ<|ρ U<|ρ U<|ν U (lo)<|aO U U<|γ U<|κ U (by simp[h0])<|ρ U<|κ U (by simp[h0])<|ρ U<|κ U (by simp[h0])<|ν U (lo)<|κ U (by simp[h0])<|fL U U<|aK U (by simp[h0]) U<|ε ?_;exact an U (by simp[JL])<|fin _ ⟨rfl,trivial⟩
 ·simp only[BC]at FW;rw[FW]at hO;have eW:0<=ts[i].op/\ts[i].op<20:=by
   simp only[rT,Dz,cV]at FW;omega
  refine ξ<|ζ<|ρ U<|ρ U<|ν U (lo)<|aO U U<|γ U<|κ U (by simp<;>omega)<|ρ U<|κ U (by simp<;>omega)<|ρ U<|κ U (by simp<;>omega)<|ν U (lo)<|κ U (by simp<;>omega)<|fL U U<|aK U (by simp<;>omega) U<|ε ?_;refine ay U (by simp<;>omega)<|ae ?_;obtain⟨o,hoo⟩:∃o:Nat,ts[i].op=(o:Nat):=⟨ts[i].op.toNat,by omega⟩;have IL:o<20:=by omega
  have zV:aX h false 1 (.p b4 (0+0+0))=some (.i .i64 (o:Nat)):=by rw[←hoo];exact lo
  have Zf:aX h false 1 (.p b4 (0+0+4))=some kv:=cl.ld U _;refine ζ<|ρ U<|ρ U<|ν U (zV)<|wT U U (by omega)<|ρ U<|ν U (hg.ld (W8 IL).2 _)<|γ U<|ε ?_;have JM:=ajU IL ts[i].kids.length;rw[←hoo]at JM;have next:iV ts[i].op ts[i].kids.length=true->∀E,dK [(k1,.p b1 0),(k2,.p b2 0),(k4,.p b4 0)] E->WC C H7 E h n Q1:=by
   intro hs E hE;rw[hs]at hO;refine dQ hE ?_;have sy:WC C H7 [(k1,.p b1 0),(k2,.p b2 0),(k4,.p b4 0)] h n Q1:=by
    refine ξ<|ζ<|ν U (c1.ld U _)<|ν U (bQ cl.2 rfl)<|ak U U<|w68 hC ht (by omega) hi hk (hb.pX i hi) (φ.one hv) ho <| λh2 n2 e2=>di U<|ε ?_;by_cases xg:ord ts i=true
    ·rw[xg]at hO ⊢;have NM:ml ts ts[i] i=0:=by rw[hO];rfl
     rw[NM,Ξ (by simp)]at aR;refine ay U U<|ae ?_;have qz:=Fq hi xg;have x1:∀{h' n'},Ext h2 n2 h' n'->Ext h n h' n':=λe=>e2.trans e;have be:∀{n':K},n.num<=n'.num->bB n' (.a (oN ts[i] vv kv i))=true:=by intro n' hn;have h1:=φ.below hv hn;have h2:=φ.below hk hn;simp only[bB,oN,gn,h1,h2];rfl
     have ve:cT (.a (oN ts[i] vv kv i)) (.a (oN ts[i] vv kv i))=true:=by have h1:=φ.da hv;have h2:=φ.da hk;simp only[cT,oN];exact jX (fK _ _) (jX (fA _ _) (jX (fA _ _) (jX h1 (jX h2 (jX (fK _ _) U)))))
     obtain⟨cs,tR⟩:=ht.sl;have bt:=φ.below tR (n':=n2) (by have:=e2.1;omega);have row:∀{H:Hf},Ag n2 h2 H->aX H true 6 (.p b4 0)=some (.a (oN ts[i] vv kv i)):=λag=>bQ ((cl.ext e2).ext (ag.x (χ _))).2 rfl;have z2:=e2.1;have hz:∀(z:Int),(if A2 ts[i] then 13 else 0)=z->gQ [if nN ts ts[i].op ts[i].kids.length ts[i].kids 0 then 11 else 0,ke ts[i],kf ts[i],z]=AS ts ts[i]:=by
      intro z hz;unfold AS;rw[V7,V7];by_cases hn:ke ts[i]=0
      ·rw[←hz,ajT eW hn]
      ·rw[au hn,au hn]
     refine dh<|aD U ((c1.ext e2).ld U _) (bt) (φ.da tR)<|aD U (row (Ag.refl _ _)) (be z2) (ve)<|cj U U<|w69 hC (ht.ext e2) (by omega) (φ.one hv) (hk.ext e2) (hb.pX i hi) qz <| λh3 n3 e3=>aD U (row e3.ag) (be (by have:=e3.1;omega)) (ve)<|cj U U<|w70 hC (φ.one hv) (φ.one hk) (hb.nm i hi) <| λh4 n4 e4=>aD U (row (e3.trans e4).ag) (be (by have:=e3.1;have:=e4.1;omega)) (ve)<|cj U U<|w71 hC (hv.ext (e2.trans (e3.trans e4))) (φ.one hk) (hb.vl i hi) (hb.vn i hi) <| λh5 n5 e5=>aD U (row ((e3.trans e4).trans e5).ag) (be (by have:=e3.1;have:=e4.1;have:=e5.1;omega)) (ve)<|cj U U<|w72 hC (hg.ext (e2.trans ((e3.trans e4).trans e5))) eW (φ.one hv) (φ.one hk) (hb.nm i hi) <| λh6 n6 e6=>rK U <| λh7 n7 xA a7 e7=>cj U U<|Jm hC.f25 (l:=[if nN ts ts[i].op ts[i].kids.length ts[i].kids 0 then 11 else 0,ke ts[i],kf ts[i],if A2 ts[i] then 13 else 0]) (φ.whole (len:=4) (by omega) a7 rfl) (by simp)<|ao U<|cG (⟨⟨Ω (by simp[Nat.testBit]),Ω (by simp[Nat.testBit]),dj (row ((e3.trans e4).ag.hp n6 none (((e3.trans e4).trans e5).trans e6).1)) (row (((e3.trans e4).trans e5).ag.hp n6 none (((e3.trans e4).trans e5).trans e6).1)),dj (row (e3.ag.hp n6 none (((e3.trans e4).trans e5).trans e6).1)) (row ((e3.trans e4).ag.hp n6 none (((e3.trans e4).trans e5).trans e6).1)),dj (row ((Ag.refl _ _).hp n6 none (((e3.trans e4).trans e5).trans e6).1)) (row (e3.ag.hp n6 none (((e3.trans e4).trans e5).trans e6).1)),trivial⟩,⟨Ω (by simp[Nat.testBit]),Ω (by simp[Nat.testBit]),Ω (by simp[Nat.testBit]),dj (row (e3.ag.hp n6 none (((e3.trans e4).trans e5).trans e6).1)) (row ((e3.trans e4).ag.hp n6 none (((e3.trans e4).trans e5).trans e6).1)),dj (row ((Ag.refl _ _).hp n6 none (((e3.trans e4).trans e5).trans e6).1)) (row (e3.ag.hp n6 none (((e3.trans e4).trans e5).trans e6).1)),trivial⟩,⟨Ω (by simp[Nat.testBit]),Ω (by simp[Nat.testBit]),Ω (by simp[Nat.testBit]),Ω (by simp[Nat.testBit]),dj (row ((Ag.refl _ _).hp n6 none (((e3.trans e4).trans e5).trans e6).1)) (row (e3.ag.hp n6 none (((e3.trans e4).trans e5).trans e6).1)),trivial⟩,⟨Ω (by simp[Nat.testBit]),Ω (by simp[Nat.testBit]),Ω (by simp[Nat.testBit]),Ω (by simp[Nat.testBit]),Ω (by simp[Nat.testBit]),trivial⟩,⟨Ω (by simp[Nat.testBit]),Ω (by simp[Nat.testBit]),Ω (by simp[Nat.testBit]),Ω (by simp[Nat.testBit]),Ω (by simp[Nat.testBit]),trivial⟩,trivial⟩) ?_
     rw[hz _ rfl];have ND:Ext h n h7 n7:=e2.trans ((((e3.trans e4).trans e5).trans e6).trans e7);refine ζ<|γ U<|dE U U<|ε ?_;by_cases qg:AS ts ts[i]=0
     ·exact ay U (by simp[qg])<|ae<|jj (by rw[aR,qg]) _ _ _ ND
     ·refine an U (by simp[qg]) ?_;refine ζ<|γ U<|bL U U ((c2.ext ND).2) (rfl) <| λh8 a8 b8=>ε ?_;exact Θ (kL _ h7 h8 n7 _ aR.symm qg ND b8 a8)
    ·simp only[BC]at xg;rw[xg]at hO ⊢;have NM:ml ts ts[i] i=9:=by rw[hO];rfl
     rw[NM,au (by decide)]at aR;refine an U U ?_;refine ζ<|bL U U ((c2.ext e2).2) (rfl) <| λh8 a8 b8=>ε ?_;exact Θ (kL 9 h2 h8 n2 _ aR.symm (by decide) e2 b8 a8)
   exact sy
  have bad:iV ts[i].op ts[i].kids.length=false->∀E,dK [(k2,.p b2 0)] E->WC C RR E h n (sq C H7 Q1):=by
   intro hs E hE;rw[hs]at hO;have NM:ml ts ts[i] i=2:=by rw[hO];rfl
   rw[NM,au (by decide)]at aR;refine dQ hE ?_;refine ζ<|bL U U (c2.2) (rfl) <| λh7 a7 b7=>ε ?_;exact Θ (kL 2 h h7 n _ aR.symm (by decide) (Ext.refl _ _) b7 a7)
  by_cases ja:0<=yP o
  ·by_cases fm:(ts[i].kids.length:Int)=yP o
   ·refine ξ<|ζ<|γ U<|fL U U<|γ U<|κ U (by simp[ja])<|ρ U<|κ U (by simp[ja])<|ρ U<|κ U (by simp[ja])<|ν U (Zf)<|κ U (by simp[ja])<|az U (hk)<|κ U (by simp[ja])<|γ U<|κ U (by simp[ja])<|dE U U<|aS U (by simp[ja]) U<|γ U<|κ U (by simp[fm])<|γ U<|κ U (by simp[fm])<|bm U U<|κ U (by simp[fm])<|γ U<|μ U (by simp<;>omega)<|μ U (by simp<;>omega)<|μ U (by simp<;>omega)<|μ U (by simp<;>omega)<|μ U (by simp<;>omega)<|κ U (by simp[fm])<|aK U (by simp<;>omega) U<|aK U (by simp[fm]) U<|ε ?_;refine ay U U<|ae<|next ?_ _ ⟨rfl,rfl,rfl,trivial⟩;rw[JM];simp[fm];omega
   ·refine ξ<|ζ<|γ U<|fL U U<|γ U<|κ U (by simp[ja])<|ρ U<|κ U (by simp[ja])<|ρ U<|κ U (by simp[ja])<|ν U (Zf)<|κ U (by simp[ja])<|az U (hk)<|κ U (by simp[ja])<|γ U<|κ U (by simp[ja])<|dE U U<|aS U (by simp[ja]) U<|γ U<|μ U (by simp[fm])<|μ U (by simp[fm])<|μ U (by simp[fm])<|eI U<|eI U<|eI U<|eI U<|eI U<|μ U (by simp[fm])<|aS U (by simp[fm]) U<|ε ?_;refine an U (by simp[fm])<|bad ?_ _ ⟨rfl,trivial⟩;rw[JM];simp[fm,ja]
  ·by_cases nw:yP o = -2
   ·refine ξ<|ζ<|γ U<|fL U U<|γ U<|μ U (by simp[ja])<|μ U (by simp[ja])<|μ U (by simp[ja])<|μ U (by simp[ja])<|μ U (by simp[ja])<|μ U (by simp[ja])<|aK U (by simp[ja]) U<|γ U<|κ U (rfl)<|γ U<|κ U (rfl)<|bm U U<|κ U (rfl)<|γ U<|κ U (by simp[nw])<|ρ U<|κ U (by simp[nw])<|ρ U<|κ U (by simp[nw])<|ν U (Zf)<|κ U (by simp[nw])<|az U (hk)<|κ U (by simp[nw])<|bm U U<|κ U (rfl)<|aS U (by simp[nw]) U<|aK U (rfl) U<|ε ?_;by_cases fm:ts[i].kids.length=0
    ·refine an U (by simp[fm])<|bad ?_ _ ⟨rfl,trivial⟩;rw[JM];simp[fm,nw]
    ·refine ay U (gj (by omega))<|ae<|next ?_ _ ⟨rfl,rfl,rfl,trivial⟩;rw[JM];simp[fm,ja]
   ·refine ξ<|ζ<|γ U<|fL U U<|γ U<|μ U (by simp[ja])<|μ U (by simp[ja])<|μ U (by simp[ja])<|μ U (by simp[ja])<|μ U (by simp[ja])<|μ U (by simp[ja])<|aK U (by simp[ja]) U<|γ U<|κ U (rfl)<|γ U<|κ U (rfl)<|bm U U<|κ U (rfl)<|γ U<|μ U (by simp[nw])<|μ U (by simp[nw])<|μ U (by simp[nw])<|μ U (by simp[nw])<|μ U (by simp[nw])<|κ U (rfl)<|aK U (by simp[nw]) U<|aK U (rfl) U<|ε ?_;refine ay U U<|ae<|next ?_ _ ⟨rfl,rfl,rfl,trivial⟩;rw[JM];simp[ja,nw]
end
end
section
variable {C:Nat->Option bN}{h:Hf}{n:K}{Q:V->Hf->K->Prop}
theorem w26(hC:Cd C){t:V}{ts:List Nd}(hb:Bd ts)(hg:Gl h n)(ht:dA h n t ts)(hQ:∀h' n',Ext h n h' n'->Q (.i .i64 (eH ts)) h' n'):τ C (.f 26 [] []) [t] h n Q:=by
 obtain⟨m,tm⟩:=ht.get;obtain⟨cs,hs⟩:=ht.sl;have hlen:=hb.len;refine τ.go hC.f26 U ?_;refine ζ<|et U (hs.cells) (fh hs.one) <| λh1 n1 dS a1 e1=>du <| λh2 n2 iL a2 e2=>ε ?_;have x2:=e1.trans e2;have c1:Cl h2 n2 n [t] 23:=Cl.ext ⟨by omega,a1⟩ e2;have c2:Cl h2 n2 n1 [.i .i64 0] 26:=⟨by omega,a2⟩;have kz:=hs.ext x2;have l1:∀{H:Hf},Ag n2 h2 H->aX H false 1 (.p n 0)=some t:=λag=>(c1.ext (ag.x (χ _))).ld U _;have be:∀{n':K},n2.num<=n'.num->bB n' t=true:=λhn=>kz.below hn;have ve:=φ.da kz;clear a1 a2;refine ξ<|dh<|aD U (l1 (Ag.refl _ _)) (be (χ _)) (ve)<|Eo U (kz)<|Aj U U<|cj U U<|sx hC.f38<|aD U (l1 (Ag.refl _ _)) (be (χ _)) (ve)<|Eo U (kz)<|wQ U U<|cj U U<|sx hC.f38<|rK U <| λh3 n3 og a3 e3=>cj U U<|Jm hC.f25 (l:=[if decide ((ts.length:Int)=0) then 10 else 0,if decide ((2000:Int)<ts.length) then 5 else 0]) (φ.whole (len:=2) (by omega) a3 rfl) (by simp)<|ao U<|cG (⟨⟨Ω (by simp[Nat.testBit]),Ω (by simp[Nat.testBit]),AL trivial trivial,trivial⟩,⟨Ω (by simp[Nat.testBit]),Ω (by simp[Nat.testBit]),dj (l1 ((Ag.refl _ _).hp n2 none (χ _))) (l1 ((Ag.refl _ _).hp n2 none (χ _))),trivial⟩,⟨Ω (by simp[Nat.testBit]),Ω (by simp[Nat.testBit]),Ω (by simp[Nat.testBit]),trivial⟩,⟨Ω (by simp[Nat.testBit]),Ω (by simp[Nat.testBit]),Ω (by simp[Nat.testBit]),trivial⟩,trivial⟩) ?_
 rw[yK];have x3:=x2.trans e3;have d2:=c2.ext e3;have ret:∀(e:Int),e=eH ts->∀E,dK [(k2,.p n1 0),(k3,.i .i64 e)] E->WC C RP E h3 n3 (sq C RU (fq [.cell k2 false 1] Q)):=by intro e hf E hE;refine dQ hE ?_;refine ζ<|γ U<|bL U U (d2.2) (rfl) <| λh7 a7 b7=>ε ?_;refine Θ ⟨_,iO rfl (dL a7 rfl _),?_⟩;rw[hf];exact hQ _ _ (x3.aj b7 (by omega))
 refine ζ<|γ U<|dE U U<|ε ?_;by_cases h1:ts.length=0
 ·refine an U (by simp[h1]) ?_;exact ret 10 (by simp[eH,h1]) _ ⟨rfl,by show some (V.i _ _)=_;simp[h1],trivial⟩
 by_cases h2:2000<ts.length
 ·refine an U (by simp[h1]<;>omega) ?_;refine ret 5 (by simp[eH,h1,h2]) _ ⟨rfl,?_,trivial⟩;show some (V.i _ _)=_;rw[Ξ (by simp[h1]),au (by simp<;>omega)]
 refine ay U ?_<|ae ?_
 ·rw[Ξ (by simp[h1]),Ξ (by simp<;>omega)];rfl
 have lG:=c1.ext e3;refine ξ<|ζ<|ν U (lG.ld U _)<|ak U U<|w53 hC (tm.ext x3) (by omega) ?_;intro bb e h4 n4 x4 a4 zW VN it;refine ε ?_;have y3:=e3.1;have y4:=x4.1;let I:Nat->Hf->K->Prop:=λj h' n'=>Ext h3 n3 h' n'/\(bb.num<n'.num/\h' bb=some (.c [t] e 0))/\∀i,i<j->nQ ts i=0;let Dr:Ex->Hf->K->Prop:=λex h' n'=>ex=.ret/\∃h1,Ext h3 n3 h1 n'/\de n1 h1 h'/\h' n1=some (.c [.i .i64 (eH ts)] 26 0);refine aC<|An U it I Dr ?_ ?_ ?_ ?_ ?_ ?_ ?_ ?_
 ·rintro j h1 m1 h' n' ⟨g1,⟨g2,g3⟩,g5⟩ ex;exact⟨g1.trans ex,⟨fk g2 ex.1,by rw[ex.2 _ g2];exact g3⟩,g5⟩
 ·rintro j h1 m1 h' ⟨g1,⟨g2,g3⟩,g5⟩ bt;exact⟨g1.aj bt (by omega),⟨g2,by rw[bt _ (by omega)];exact g3⟩,g5⟩
 ·rintro j h1 m1 ⟨g1,g2,_⟩;exact⟨g2.1,g2.2,tm.ext (x3.trans g1)⟩
 ·intro j hj;rw[Fe];rfl
 ·intro h' bt;have Nl:n4.succ.num=n4.num+1:=K.fQ n4;exact⟨(x4.aj bt (by omega)).succ,⟨by omega,by rw[bt _ (by omega)];exact a4⟩,λi hi=>by omega⟩
 ·rintro j hj h5 n5 E1 xz ⟨g1,⟨g2,g3⟩,g5⟩ jb;have eN:j<ts.length:=by rw[Cu]at hj;exact hj
  rw[Fe]at jb;simp only[lV,p7]at jb;subst jb;obtain⟨vv,kv,mJ,Mu,Fh⟩:=tm.row eN;rw[mJ,VH];have gK:=Cv ts[j] (φ.one Mu) (φ.one Fh) (i:=j);refine aL<|du <| λh6 n6 oZ a6 e6=>bL U U a6 (dW rfl rfl gK) <| λh7 a7 b7=>ε ⟨rfl,by rw[b7 _ (by omega),e6.2 _ xz],λh8 b8=>?_⟩;have c4:Cl h8 n6 n5 (oN ts[j] vv kv j) 113:=(Cl.aj ⟨by omega,a7⟩ b8 (by omega));have g11:=g1.1;have x8:Ext h3 n3 h8 n6:=((g1.trans e6).aj b7 (by omega)).aj b8 (by omega);have xx:=x3.trans x8;refine aC<|Γ (ajX hC hb (hg.ext xx) eN (ht.ext xx) (Mu.ext xx) (Fh.ext xx) (λi hi=>NL (by omega) (g5 i hi)) (lG.ext x8) (d2.ext x8) c4 ?_ ?_) ⟨rfl,rfl,rfl,trivial⟩
  ·intro er h9 h' n' E' he aR e9 b9 a9;have z9:=e9.1;have hf:eH ts=er:=by
    have xe:=ajV (ts:=ts) j 0 ts.length (λk hk=>by rw[iI];exact g5 k hk) (by rw[iI,←he];exact aR) eN;rw[iI,←he]at xe;unfold eH;rw[Ξ h1,Ξ h2,xe,au aR]
   refine⟨by omega,(b9 _ (by omega)).trans (e9.2 _ (by omega)),rfl,h9,x8.trans e9,b9,by rw[hf];exact a9⟩
  ·intro he h' n' E' e9;have z9:=e9.1;refine⟨by omega,e9.2 _ (by omega),x8.trans e9,⟨by omega,?_⟩,λi hi=>?_⟩
   ·rw[e9.2 _ (by omega),b8 _ (by omega),b7 _ (by omega),e6.2 _ g2];exact g3
   ·by_cases tM:i=j
    ·rw[tM];exact he
    ·exact g5 i (by omega)
 ·rintro h' n' xz ⟨g1,⟨g2,g3⟩,g5⟩;rw[Cu]at g5;have ho:∀j,j<ts.length->ord ts j=true:=λj hj=>NL hj (g5 j hj);have hz:mn ts ts.length 0=0:=ajW _ _ λk hk=>by rw[iI];exact g5 k hk
  have hfe:eH ts=AT ts:=by unfold eH;rw[Ξ h1,Ξ h2,hz,Ξ (by simp)]
  have xx:=x3.trans g1;have O3:=ht.ext xx;obtain⟨csF,O4⟩:=O3.sl;have kW:ts.length - 1<ts.length:=by omega
  have cF:=lG.ext g1;have dF:=d2.ext g1;refine ζ<|ν U (cF.ld U _)<|az U (O4)<|mO U U (show(ts.length:Int) - 1=((ts.length - 1:Nat):Int) by omega) ⟨by omega,by omega⟩<|γ U<|ε ?_;have lt:∀{H:Hf},Ag n' h' H->aX H false 1 (.p n 0)=some t:=λag=>(cF.ext (ag.x (χ _))).ld U _;have Fs:∀{H:Hf},Ag n' h' H->aX H false 1 (.p t.blk (t.off+(ts.length - 1)*5+0))=some (.i .i64 (tw ts (ts.length - 1))):=λag=>by obtain⟨vv,kv,hx⟩:=(O3.ext (ag.x (χ _))).node kW;have:=hx.op 1;rw[←Ff kW]at this;exact this
  have Zg:∀{nU:K},n'.num<=nU.num->bB nU t=true:=λhn=>O4.below hn;have Zh:=φ.da O4;refine dh<|aD U (lt (Ag.refl _ _)) (Zg (χ _)) (Zh)<|ao U<|cj U U<|w73 hC.f73 O3 (by omega) kW (λj hj=>ho j (by omega))<|Ew U U<|cj U U<|sx hC.f38<|aD U (lt (Ag.refl _ _)) (Zg (χ _)) (Zh)<|ao U<|cX U U (O4) (kW)<|bX U<|aD U (Fs (Ag.refl _ _)) U (fK _ _)<|Aj U U<|cj U U<|sx hC.f38<|aD U (lt (Ag.refl _ _)) (Zg (χ _)) (Zh)<|cj U U<|w74 hC O3 (by omega) (by omega) hb.pX ho <| λh6 n6 e6=>wQ U U<|cj U U<|sx hC.f38<|rK U <| λh7 n7 xA a7 e7=>cj U U<|Jm hC.f25 (l:=[if (!decide (((fs ts (ts.length - 1):Nat):Int)=0)) then 9 else 0,if decide (tw ts (ts.length - 1)=19) then 11 else 0,if decide (60<Fg ts) then 24 else 0]) (φ.whole (len:=3) (by omega) a7 rfl) (by simp)<|fV U U (((dF.ext e6).ext e7).2) (rfl) <| λh8 a8 b8=>cG (⟨⟨Ω (by simp[Nat.testBit]),Ω (by simp[Nat.testBit]),Ω (by simp[Nat.testBit]),Ω (by simp[Nat.testBit]),dj (lt ((Ag.refl _ _).hp n6 none e6.1)) (lt ((Ag.refl _ _).hp n6 none e6.1)),dj (lt ((Ag.refl _ _).hp n6 none e6.1)) (lt ((Ag.refl _ _).hp n6 none e6.1)),dj (lt ((Ag.refl _ _).hp n6 none e6.1)) (lt ((Ag.refl _ _).hp n6 none e6.1)),trivial⟩,⟨Ω (by simp[Nat.testBit]),Ω (by simp[Nat.testBit]),Ω (by simp[Nat.testBit]),Ω (by simp[Nat.testBit]),Ω (by simp[Nat.testBit]),dj (Fs ((Ag.refl _ _).hp n6 none e6.1)) (Fs ((Ag.refl _ _).hp n6 none e6.1)),dj (Fs ((Ag.refl _ _).hp n6 none e6.1)) (Fs ((Ag.refl _ _).hp n6 none e6.1)),trivial⟩,⟨Ω (by simp[Nat.testBit]),Ω (by simp[Nat.testBit]),Ω (by simp[Nat.testBit]),Ω (by simp[Nat.testBit]),Ω (by simp[Nat.testBit]),dj (lt ((Ag.refl _ _).hp n6 none e6.1)) (lt ((Ag.refl _ _).hp n6 none e6.1)),dj (lt ((Ag.refl _ _).hp n6 none e6.1)) (lt ((Ag.refl _ _).hp n6 none e6.1)),trivial⟩,⟨Ω (by simp[Nat.testBit]),Ω (by simp[Nat.testBit]),Ω (by simp[Nat.testBit]),Ω (by simp[Nat.testBit]),Ω (by simp[Nat.testBit]),Ω (by simp[Nat.testBit]),Ω (by simp[Nat.testBit]),trivial⟩,trivial⟩) ?_
  refine Θ ⟨_,iO rfl (dL a8 rfl _),?_⟩;have hl:AT ts=gQ [if (!decide (((fs ts (ts.length - 1):Nat):Int)=0)) then 9 else 0,if decide (tw ts (ts.length - 1)=19) then 11 else 0,if decide (60<Fg ts) then 24 else 0]:=by unfold AT;simp only[bA];congr 1;simp
  have:=hQ h8 n7 (((xx.trans e6).trans e7).aj b8 (by omega));rw[hfe,hl]at this;exact this
 ·rintro ex h' n' qt xz ⟨rfl,nj,g1,g2,g3⟩ bt;have z:=g1.1;have zz:=(d2.ext g1).1;refine⟨_,iO rfl (dL (show qt n1=_ by rw[bt _ (by omega)];exact g3) U _),?_⟩;exact hQ _ _ (((x3.trans g1).aj g2 (by omega)).aj bt (by omega))
end
end Go.Ev.X
namespace Go.Ev.X
open Go Go.Ev
theorem aj0(x:Nd):sC 0 x=x:=by
 unfold sC;have:x.kids.map (λk=>k - ((0:Nat):Int))=x.kids:=by
  have:(λk:Int=>k - ((0:Nat):Int))=id:=by funext k;simp
  rw[this,List.map_id]
 cases x;simp_all
theorem NN{ts:List Nd}(h0:0<ts.length)(h:fs ts (ts.length - 1)=0):part ts (ts.length - 1)=ts:=by
 unfold part;rw[h,jr,show ts.length - 1+1 - 0=ts.length by omega,gM];have:sC 0=id:=by funext x;exact aj0 x
 rw[this,List.map_id]
theorem aj1{f:List Nd->List Nd->Bool}{g:Int->Int->Bool}{P P':Int->List Nd}:∀{A B:List Int},(∀p∈A,∀q∈B,f (P p) (P' q)=g p q)->qG f (A.map P) (B.map P')=qH g A B:=by
 intro A
 induction A with
 | nil=>intro B _;cases B<;>rfl
 | cons a A ih=>
  intro B h;cases B with
  | nil=>rfl
  | cons b B=>
   simp only[lP,qG,qH];rw[h a (by simp) b (by simp),ih λp hp q hq=>h p (by simp[hp]) q (by simp[hq])]
theorem NO{ts:List Nd}(r:∀j,j<ts.length->ord ts j=true){i:Nat}(hi:i<ts.length):∀k∈iC ts i,0<=k/\k.toNat<i/\fs ts i<=fs ts k.toNat:=by
 intro k hk;have ho:=r i hi;have tn:=IE ho;have nu:=ho;unfold ord at nu;have:=(CB nu).2 k (by simpa using hk);have:=CB nu;have h3:=xc ho k hk;refine⟨by omega,by omega,?_⟩;have:oS ts (iC ts i).reverse i<=fs ts k.toNat:=by omega
 omega
theorem Xa{ts:List Nd}(r:∀j,j<ts.length->ord ts j=true){i:Nat}(hi:i<ts.length):parts (part ts i)=(iC ts i).map λk=>part ts k.toNat:=by
 have hl:=oR hi;have hle:=kK ts i;unfold parts;have hj:(part ts i).length - 1<(part ts i).length:=by omega
 rw[Nb hi hj,show fs ts i+((part ts i).length - 1)=i by omega,List.map_map];apply List.map_congr_left;intro k hk;obtain⟨h1,h2,h3⟩:=NO r hi k hk;have hfk:=kK ts k.toNat;have ω:(k - (fs ts i:Int)).toNat<(part ts i).length:=by omega
 show part (part ts i) (k - (fs ts i:Int)).toNat=part ts k.toNat;rw[aht hi r ω];congr 1;omega
theorem Xb{ts:List Nd}{i:Nat}(hi:i<ts.length):(part ts i)[(part ts i).length - 1]?=some (sC (fs ts i) ts[i]):=by
 have hl:=oR hi;have hle:=kK ts i;have hj:(part ts i).length - 1<(part ts i).length:=by omega
 rw[fO hj,CC hi hj];have e:fs ts i+((part ts i).length - 1)=i:=by omega
 simp only[e]
theorem aj2{ts us:List Nd}(r:∀j,j<ts.length->ord ts j=true)(r':∀j,j<us.length->ord us j=true):∀(N i:Nat),i<N->∀(k f1 f2:Nat) (l:List (S×S)),i<ts.length->k<us.length->(part ts i).length<=f1->i<f2->mZ f1 (part ts i) (part us k) l=vV ts us f2 i k l:=by
 intro N
 induction N with
 | zero=>intro i hi;omega
 | succ N ih=>
  intro i hN k f1 f2 l hi hk h1 h2;have hl:=oR hi;have hle:=kK ts i;obtain⟨f1,rfl⟩:∃f,f1=f+1:=⟨f1 - 1,by omega⟩;obtain⟨f2,rfl⟩:∃f,f2=f+1:=⟨f2 - 1,by omega⟩;rw[Wu hi hk];unfold mZ;rw[Xb hi,Xb hk];simp only;have eu:jL (sC (fs ts i) ts[i]) (sC (fs us k) us[k])=jL ts[i] us[k]:=by unfold jL sC;simp
  have ez:qG (λp q=>mZ f1 p q (l++iX ts[i].vars us[k].vars)) (parts (part ts i)) (parts (part us k))=qH (λp q=>vV ts us f2 p.toNat q.toNat (l++iX ts[i].vars us[k].vars)) ts[i].kids us[k].kids:=by rw[Xa r hi,Xa r' hk,←mj hi,←mj hk];apply aj1;intro p hp q hq;obtain⟨p1,p2,p3⟩:=NO r hi p hp;obtain⟨q1,q2,q3⟩:=NO r' hk q hq;have hfp:=kK ts p.toNat;have tN:=oR (ts:=ts) (i:=p.toNat) (by omega);exact ih p.toNat (by omega) q.toNat f1 f2 _ (by omega) (by omega) (by omega) (by omega)
  rw[eu];show(if jL ts[i] us[k]=true then false else match (if ts[i].op=3 then kN ts[i].name us[k].name l.reverse else none) with
   | some r=>r
   | none=>if ts[i].name=us[k].name then (if mY ts[i].vars us[k].vars then qG (λp q=>mZ f1 p q (l++iX ts[i].vars us[k].vars)) (parts (part ts i)) (parts (part us k)) else false) else false)=_
  rw[ez];generalize (if ts[i].op=3 then kN ts[i].name us[k].name l.reverse else none)=z
  cases z<;>rfl
theorem aj3{ts:List Nd}:∀(m i:Nat),mn ts m i=0->∀k,k<m->nQ ts (i+k)=0:=by
 intro m
 induction m with
 | zero=>intro i _ k hk;omega
 | succ m ih=>
  intro i h k hk;rw[mn]at h;by_cases h0:nQ ts i=0
  ·rw[Ξ (by simp[h0])]at h;cases k with
   | zero=>exact h0
   | succ k=>have:=ih (i+1) h k (by omega);rw[show i+(k+1)=i+1+k by omega];exact this
  ·rw[au h0]at h;exact absurd h h0
theorem A3{ts:List Nd}(hb:Bd ts)(h:eH ts=0):Rt ts/\ts.length<=2000/\fs ts (ts.length - 1)=0:=by
 unfold eH at h;by_cases h1:ts.length=0
 ·rw[au h1]at h;exact absurd h (by decide)
 rw[Ξ h1]at h;by_cases h2:2000<ts.length
 ·rw[au h2]at h;exact absurd h (by decide)
 rw[Ξ h2]at h;by_cases h3:mn ts ts.length 0=0
 ·rw[Ξ (by simp[h3])]at h;refine⟨⟨hb,by omega,λj hj=>NL hj (by have:=aj3 _ _ h3 j hj;rwa [iI]at this)⟩,by omega,?_⟩;unfold AT at h;rw[MO]at h;by_cases h4:fs ts (ts.length - 1)=0
  ·exact h4
  ·rw[Ξ h4,au (by decide)]at h;exact absurd h (by decide)
 ·rw[au h3]at h;exact absurd h h3
theorem aj4{a b:List Nd}(ha:Bd a)(hb:Bd b)(fa:eH a=0)(fb:eH b=0):mZ a.length a b []=vV a b a.length (a.length - 1) (b.length - 1) []:=by obtain⟨ra,la,za⟩:=A3 ha fa;obtain⟨rb,lb,zb⟩:=A3 hb fb;have h0:=ra.pos;have Yx:=rb.pos;have:=aj2 ra.ord rb.ord a.length (a.length - 1) (by omega) (b.length - 1) a.length a.length [] (by omega) (by omega) (by rw[NN h0 za];exact χ _) (by omega);rw[NN h0 za,NN Yx zb]at this;exact this
end Go.Ev.X
namespace Go.Ev.X
open Go Go.Ev
attribute [local irreducible] WC WO WD SO τ
section
variable {C:Nat->Option bN}{h:Hf}{n:K}{Q:V->Hf->K->Prop}
theorem w6(hC:Cd C){ta tb:V}{a b:List Nd}(ba:Bd a)(bb:Bd b)(hg:Gl h n)(kX:dA h n ta a)(lO:dA h n tb b)
 (hQ:∀h' n' r e,Ext h n h' n'->e=gQ [eH a,eH b]->(e=0->r=vV a b a.length (a.length - 1) (b.length - 1) [])->(e≠0->r=false)->Q (.u [.b r,.i .i64 e]) h' n'):τ C (.f 6 [] []) [ta,tb] h n Q:=by
 refine τ.go hC.f6 U ?_;refine ζ<|γ U<|γ U<|ε ?_;refine ξ<|ζ<|γ U<|ak U U<|w26 hC ba hg kX <| λh1 n1 e1=>γ U<|ak U U<|w26 hC bb (hg.ext e1) (lO.ext e1) <| λh2 n2 e2=>lu U <| λh3 n3 og a3 e3=>ak U U<|Jm hC.f25 (l:=[eH a,eH b]) (φ.whole (len:=2) (by omega) a3 rfl) (by simp)<|γ U<|ε ?_;have Dm:=(e1.trans e2).trans e3;generalize he:gQ [eH a,eH b]=e at*;refine ζ<|γ U<|dE U U<|ε ?_;by_cases h0:e=0
 ·subst h0;refine ay U U<|ae ?_;rw[yK]at he;have fa:eH a=0:=by
   by_cases h:eH a=0
   ·exact h
   ·rw[au h]at he;exact he
  have fb:eH b=0:=by rw[Ξ (by simp[fa])]at he;exact he
  obtain⟨ra,la,_⟩:=A3 ba fa;obtain⟨rb,lb,_⟩:=A3 bb fb;have Xc:=kX.ext Dm;have Xd:=lO.ext Dm;obtain⟨ca,sa⟩:=Xc.sl;obtain⟨cb,sb⟩:=Xd.sl;have pa:=ra.pos;have pb:=rb.pos;refine ζ<|γ U<|γ U<|γ U<|az U (sa)<|mO U U ((show(a.length:Int) - 1=((a.length - 1:Nat):Int) by omega)) ⟨by omega,by omega⟩<|γ U<|az U (sb)<|mO U U ((show(b.length:Int) - 1=((b.length - 1:Nat):Int) by omega)) ⟨by omega,by omega⟩<|ak U U<|w27 hC ra rb a.length (a.length - 1) (b.length - 1) _ _ _ [] _ _ _ (by omega) (by omega) (by omega) Xc Xd (φ.ns _ _ _) (by simp;omega) <| λh4 n4 e4=>γ U<|γ U<|ε ?_;exact Θ ⟨_,rfl,hQ _ _ _ _ (Dm.trans e4) U (λ_=>rfl) (λh=>absurd rfl h)⟩
 ·refine an U (by simp[h0]) ?_;refine ζ<|γ U<|γ U<|γ U<|ε ?_;exact Θ ⟨_,rfl,hQ _ _ _ _ Dm rfl (λh=>absurd h h0) (λ_=>rfl)⟩
theorem Xe{ts:List Nd}(h:vU ts=true):Bd ts:=by
 simp only[vU,bh,sF]at h;obtain⟨h1,h2⟩:=h;have hn:∀i (hi:i<ts.length),pJ ts[i]=true:=λi hi=>h2 _ (fW hi);have hl:ts.length<100000:=by
  by_cases h3:120<ts.length
  ·have:ts.length=2001:=by simpa[h3]using h1
   omega
  ·omega
 have hs:∀i (hi:i<ts.length),ts[i].name.length<=200/\ts[i].kids.length<=12/\ts[i].vars.length<=8/\∀v∈ts[i].vars,v.1.length<=200:=λi hi=>by have:=hn i hi;simp only[pJ,IF,bh,xM,cV,bA,sF]at this;obtain⟨g1,_,_,_,g2,g3,g4⟩:=this;refine⟨by omega,by omega,by omega,λv hv=>?_⟩;have:=g3 v hv;simp only[xi,bh,xM,cV]at this;omega
 exact⟨hl,λi hi=>by have:=(hs i hi).2.1;omega,λi hi=>by have:=(hs i hi).1;omega,λi hi=>by have:=(hs i hi).2.2.1;omega,λi hi v hv=>by have:=(hs i hi).2.2.2 v hv;omega⟩
theorem w3(hC:Cd C){ta tb:V}{a b:List Nd}{G:Hf->K->Prop}(la:Gz a)(lb:Gz b)(hG:∀{h n h' n'},G h n->Ext h n h' n'->G h' n')(NP:∀{h n} {Q:V->Hf->K->Prop},G h n->Q (.b true) h n->τ C (.f 4 [] []) [] h n Q)
 (NQ:G h n)(hg:Gl h n)(kX:dA h n ta a)(lO:dA h n tb b)(hQ:∀h' n',Q (.b true) h' n'):τ C (.f 3 [] []) [ta,tb] h n Q:=by
 refine τ.go hC.f3 U ?_;refine ζ<|γ U<|ε ?_;by_cases sa:vU a=true
 ·by_cases sb:vU b=true
  ·have NR:∀{Q:V->Hf->K->Prop},Q (.b true) h n->τ C (.f 5 [] []) [ta] h n Q:=λhQ=>w5 hC kX la (by rw[sa];exact hQ);have Zi:∀{Q:V->Hf->K->Prop},Q (.b true) h n->τ C (.f 5 [] []) [tb] h n Q:=λhQ=>w5 hC lO lb (by rw[sb];exact hQ);refine ξ<|ζ<|ak U U<|NP NQ<|di U<|γ U<|κ U (rfl)<|γ U<|κ U (rfl)<|ak U U<|NR<|κ U (rfl)<|di U<|aK U (rfl) U<|γ U<|κ U (rfl)<|γ U<|κ U (rfl)<|ak U U<|Zi<|κ U (rfl)<|di U<|aK U (rfl) U<|ε ?_;refine ay U U<|ae ?_;have ba:=Xe sa;have bb:=Xe sb;refine ζ<|γ U<|ak U U<|w7 hC kX ba <| λva h1 n1 e1 i1=>γ U<|ak U U<|w7 hC (lO.ext e1) bb <| λvb h2 n2 e2 i2=>ak U U<|w6 hC ba bb (hg.ext (e1.trans e2)) (i1.ext e2) i2 <| λh3 n3 rP eP e3 heP hP1 hP2=>γ U<|dG U U<|dG U U<|γ U<|γ U<|ε ?_;have x3:=(e1.trans e2).trans e3;refine ζ<|γ U<|γ U<|ak U U<|w8 hC ba bb (kX.ext x3) (lO.ext x3) (λh=>(A3 ba h).1) (λh=>(A3 bb h).1) (λh=>(A3 ba h).2.1) <| λh4 n4 rR eR e4 heR hR1 hR2=>γ U<|dG U U<|dG U U<|γ U<|γ U<|ε ?_;have x4:=x3.trans e4;have Zj:eP=eR:=by rw[heP,heR]
   have C7:rP=rR:=by
    by_cases h0:eP=0
    ·rw[hP1 h0,hR1 (by rw[←Zj];exact h0)];have he:=heP;rw[h0,yK]at he;have fa:eH a=0:=by
      by_cases h:eH a=0
      ·exact h
      ·rw[au h]at he;exact he.symm
     have fb:eH b=0:=by rw[Ξ (by simp[fa])]at he;exact he.symm
     exact(aj4 ba bb fa fb).symm
    ·rw[hP2 h0,hR2 (by rw[←Zj];exact h0)]
   subst C7;subst Zj;refine ζ<|γ U<|ak U U<|w7 hC (kX.ext x4) ba <| λDf h5 n5 e5 i5=>γ U<|ak U U<|w7 hC (lO.ext (x4.trans e5)) bb <| λBm h6 n6 e6 i6=>ak U U<|w9 hC (i5.ext e6) i6 ba <| λs1 h7 n7 e7 kA=>γ U<|γ U<|ak U U<|w10 hC (kX.ext (((x4.trans e5).trans e6).trans e7)) (lO.ext (((x4.trans e5).trans e6).trans e7)) ba <| λs2 h8 n8 e8 kz=>?_;have Gb:s1=s2:=by
    by_cases h:a=b
    ·rw[kA.2 h,kz.2 h]
    ·cases s1 with
     | true=>exact absurd (kA.1 rfl) h
     | false=>cases s2 with
      | true=>exact absurd (kz.1 rfl) h
      | false=>rfl
   subst Gb;have qU:(s1==s1)=true:=by cases s1<;>rfl
   have fM:(rP==rP)=true:=by cases rP<;>rfl
   refine HM U U<|?_;rw[qU];refine γ U<|κ U U<|γ U<|κ U U<|γ U<|κ U U<|HM U U<|?_;rw[fM];refine aS U U U<|γ U<|κ U U<|γ U<|κ U U<|γ U<|κ U U<|bm U U<|aS U U U<|γ U<|ε<|Θ ⟨_,rfl,?_⟩;rw[rj rfl];exact hQ _ _
  ·simp only[BC]at sb;have NR:∀{Q:V->Hf->K->Prop},Q (.b true) h n->τ C (.f 5 [] []) [ta] h n Q:=λhQ=>w5 hC kX la (by rw[sa];exact hQ);have Zi:∀{Q:V->Hf->K->Prop},Q (.b false) h n->τ C (.f 5 [] []) [tb] h n Q:=λhQ=>w5 hC lO lb (by rw[sb];exact hQ);refine ξ<|ζ<|ak U U<|NP NQ<|di U<|γ U<|κ U (rfl)<|γ U<|κ U (rfl)<|ak U U<|NR<|κ U (rfl)<|di U<|aK U (rfl) U<|γ U<|κ U (rfl)<|γ U<|κ U (rfl)<|ak U U<|Zi<|κ U (rfl)<|di U<|aK U (rfl) U<|ε ?_;refine an U U ?_;refine ζ<|ak U U<|NP NQ<|γ U<|ε (Θ ⟨_,rfl,hQ _ _⟩)
 ·simp only[BC]at sa;have NR:∀{Q:V->Hf->K->Prop},Q (.b false) h n->τ C (.f 5 [] []) [ta] h n Q:=λhQ=>w5 hC kX la (by rw[sa];exact hQ);refine ξ<|ζ<|ak U U<|NP NQ<|di U<|γ U<|κ U (rfl)<|γ U<|κ U (rfl)<|ak U U<|NR<|κ U (rfl)<|di U<|aK U (rfl) U<|γ U<|μ U (rfl)<|μ U (rfl)<|μ U (rfl)<|aS U (rfl) U<|ε ?_;refine an U U ?_;refine ζ<|ak U U<|NP NQ<|γ U<|ε (Θ ⟨_,rfl,hQ _ _⟩)
end
end Go.Ev.X
