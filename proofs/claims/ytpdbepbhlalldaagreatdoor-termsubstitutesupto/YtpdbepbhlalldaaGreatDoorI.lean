/- A part of the proof. -/
import Derived.Test.YtpdbepbhlalldaaGreatDoorH
import Derived.Test.YtpdbepbhlalldaaGreatDoorG
import Derived.Test.YtpdbepbhlalldaaGreatDoorD
set_option linter.all false
namespace Go.Ev.X
open Go Go.Ev
attribute [local irreducible] WC WO WD SO ν
section
variable {C:Nat->Option aI}{h:Hf}{n:K}{Q:V->Hf->K->Prop}
def aih(d:Cd C){s:S}(a:Q (.b (isNeg s)) h n):ν C (.f 325 [] []) [st s,st [45]] h n Q:=by
 refine ν.go d.f325 U ?_;refine ε<|γ U<|δ ?_;cases s with
 | nil=>
  refine ε<|γ U<|bN U<|γ U<|bN U<|dj U U<|γ U<|μ U (by simp)<|μ U (by simp)<|μ U (by simp)<|μ U (by simp)<|μ U (by simp)<|μ U (by simp)<|aL U (by simp) U<|γ U<|δ (Γ ⟨_,rfl,a⟩)
 | cons c l=>
  refine ε<|γ U<|bN U<|γ U<|bN U<|dj U U<|γ U<|ζ U (by simp<;>omega)<|γ U<|ζ U (by simp<;>omega)<|γ U<|ζ U (by simp<;>omega)<|bN U<|ζ U (by simp<;>omega)<|wz U U U (by simp) (by simp)<|ζ U (by simp<;>omega)<|γ U<|ζ U (by simp<;>omega)<|eC U U<|aU U (by simp<;>omega) U<|γ U<|δ (Γ ⟨_,rfl,?_⟩);have e:decide ((List.drop 0 (c::l)).take (([45]:S).length - 0)=[45])=isNeg (c::l):=by
   show decide ([c]=[45])=decide (c.toNat=45);have:([c]=[(45:UInt8)])↔c.toNat=45:=by
    constructor
    ·intro h;injection h with h;rw[h];rfl
    ·intro h;congr 1;exact UInt8.toNat_inj.1 h
   by_cases h:c.toNat=45
   ·rw[nE (this.2 h),nE h]
   ·rw[eK (λe=>h (this.1 e)),eK h]
  rw[e];exact a
def aii(g:Cd C){s:S}(a:Q (.u [st (body s),.b (isNeg s)]) h n):ν C (.f 294 [] []) [st s,st [45]] h n Q:=by
 refine ν.go g.f294 U ?_;refine ε<|γ U<|γ U<|δ ?_;refine θ<|ε<|γ U<|γ U<|ψ U U<|aih g<|bZ U<|δ ?_;cases s with
 | nil=>
  refine ah U U ?_;refine ε<|γ U<|γ U<|γ U<|δ (Γ ⟨_,rfl,a⟩)
 | cons c l=>
  by_cases e:c.toNat=45
  ·have hb:body (c::l)=l:=by simp[body,e]
   have d:isNeg (c::l)=true:=by simp[isNeg,e]
   rw[hb,d]at a;refine ae U (by rw[d];rfl)<|Ω ?_;refine ε<|γ U<|γ U<|bN U<|wz U U U (by simp) (by simp)<|γ U<|γ U<|δ (Γ ⟨_,rfl,?_⟩);have:((c::l).drop ([45]:S).length).take ((c::l).length - ([45]:S).length)=l:=by simp
   rw[this];exact a
  ·have hb:body (c::l)=c::l:=by simp[body,e]
   have d:isNeg (c::l)=false:=by simp[isNeg,e]
   rw[hb,d]at a;refine ah U (by rw[d];rfl) ?_;refine ε<|γ U<|γ U<|γ U<|δ (Γ ⟨_,rfl,a⟩)
def Sn(a:Cd C){s:S}(c:Q (.u [st (body s),.b (isNeg s)]) h n):ν C (.f 246 [] []) [st s,st [45]] h n Q:=by refine ν.go a.f246 U ?_;refine ε<|γ U<|γ U<|δ ?_;refine ε<|γ U<|γ U<|ψ U U<|aii a<|bF U U<|bF U U<|γ U<|γ U<|δ (Γ ⟨_,rfl,c⟩)
def aij{s:S}(hl:s.length<1000000){b:K}{h0:Hf}{n0:K}(o:n0.num<=b.num){Q1:Ex->Env->Hf->K->Prop}(g:s.all fP=false->∀E h' n',Ext h0 n0 h' n'->Q1 .ret ((k2,.b false)::E) h' n')(k:s.all fP=true->∀E h' n',Ext h0 n0 h' n'->ρ [(k0,st s)] E->Q1 .normal E h' n'):
 ∀(m i:Nat) (h:Hf) (n:K),s.length - i<=m->i<=s.length->h b=some (.it s.length (aT s) i)->Ext h0 n0 h n->(∀j (hj:j<s.length),j<i->fP s[j]=true)->WC C abp [(k0,st s),(k6,.p b 0)] h n (blk 0 Q1):=by
 intro m
 induction m with
 | zero=>
  intro i h n hm hi hb e a;refine ax ?_;refine ε<|yt U hb (by omega)<|bF U U<|δ ?_;refine θ<|ae U U<|aJ (k (mE.2 λc d=>?_) _ _ _ e (ρ.rf U));obtain⟨j,hj,rfl⟩:=iX d;exact a j hj (by omega)
 | succ m ih=>
  intro i h n hm hi hb e a;refine ax ?_;by_cases q:i<s.length
  ·refine ε<|Ec U hb (by omega) <| λr w h1 R t b1=>bF U U<|δ ?_;refine θ<|ah U U<|Ω<|aj ?_;have f:=e.ab b1 o;have bad:fP s[i]=false->s.all fP=false:=λh=>by
    cases u:s.all fP with
    | false=>rfl
    | true=>rw[mE.1 u _ (bK q)]at h;cases h
   have l:128<=s[i].toNat->fP s[i]=false:=λh=>by simp only[fP,Bool.and_eq_false_iff,cg];omega
   refine ε<|bF U U<|γ U<|δ ?_;by_cases x:r<48
   ·refine ε<|γ U<|ay U U<|γ U<|μ U (by simp<;>omega)<|μ U (by simp<;>omega)<|aU U (by simp<;>omega) U<|δ ?_;refine ah U (by simp<;>omega) ?_;refine ε<|γ U<|δ (Γ (g (bad ?_) _ _ _ f));by_cases hb:s[i].toNat<128
    ·have:=(R.lo hb).1;simp only[fP,Bool.and_eq_false_iff,cg];omega
    ·exact l (by omega)
   ·refine ε<|γ U<|ay U U<|γ U<|ζ U (by simp<;>omega)<|γ U<|ζ U (by simp<;>omega)<|bC U U<|aL U (by simp<;>omega) U<|δ ?_;by_cases y:57<r
    ·refine ah U (by simp<;>omega) ?_;refine ε<|γ U<|δ (Γ (g (bad ?_) _ _ _ f));by_cases hb:s[i].toNat<128
     ·have:=(R.lo hb).1;simp only[fP,Bool.and_eq_false_iff,cg];omega
     ·exact l (by omega)
    ·refine ae U (by simp<;>omega)<|Ω ?_;have hb:s[i].toNat<128:=by
      by_cases hb:s[i].toNat<128
      ·exact hb
      ·have:=(R.hi (by omega)).1;omega
     obtain⟨z,A⟩:=R.lo hb;refine χ (ih (i+w) h1 n (by omega) R.le t f (λj hj B=>?_)) (ρ.rf U);by_cases v:j<i
     ·exact a j hj v
     ·have:j=i:=by omega
      subst this;simp only[fP,aK,aW];omega
  ·refine ε<|yt U hb (by omega)<|bF U U<|δ ?_;refine θ<|ae U U<|aJ (k (mE.2 λc d=>?_) _ _ _ e (ρ.rf U));obtain⟨j,hj,rfl⟩:=iX d;exact a j hj (by omega)
def EW(d:Cd C){s:S}(hl:s.length<1000000)(c:∀h' n',Ext h n h' n'->Q (.b (!decide (s.length=0)&&s.all fP)) h' n'):ν C (.f 247 [] []) [st s] h n Q:=by
 refine ν.go d.f247 U ?_;refine ε<|γ U<|δ ?_;refine θ<|ε<|γ U<|Eb U <| λh1 n1 l g i=>δ ?_;refine aj<|χ (aij hl (b:=n) (h0:=h) (n0:=n) (φ _) (λa E h' n' e=>⟨_,rfl,by have:=c h' n' e;rw[a,Bool.and_false]at this;exact this⟩) (λa E h' n' e hs=>bS hs ?_) _ 0 h1 n1 (φ _) (by omega) g i (λj hj h=>by omega)) (ρ.rf U);refine ε<|γ U<|rA (b:=[]) U U<|γ U<|δ (Γ ⟨_,rfl,?_⟩);have:=c h' n' e;rw[a,Bool.and_true]at this;have k:decide (s=[])=decide (s.length=0):=by cases s<;>simp
 rw[k];exact this
def aik{t:S}(h:0<t.length):oe t=t[0].toNat:=by
 cases t with
 | nil=>simp at h
 | cons=>rfl
def BR(g:Cd C){s:S}(hl:s.length<1000000)(o:∀h' n',Ext h n h' n'->Q (.i .i64 (fm s)) h' n'):ν C (.f 187 [] []) [st s] h n Q:=by
 refine ν.go g.f187 U ?_;refine ε<|γ U<|δ ?_;refine ε<|γ U<|ψ U U<|Sn g<|γ U<|bF U U<|bF U U<|γ U<|γ U<|δ ?_;have z:=Bo s;have key:gV s=((!decide ((body s).length=0)&&(body s).all fP)&&!(decide (oe (body s)=48)&&(isNeg s||decide (1<(body s).length)))):=by
  unfold gV;have v:decide (s=[45,48])=(isNeg s&&(decide ((body s).length=1)&&decide (oe (body s)=48))):=by
   match s with
   | []=>rfl
   | [c]=>simp[isNeg,body];intro h;simp[h]
   | [c,d]=>
    by_cases j:c.toNat=45
    ·have:c=45:=UInt8.toNat_inj.1 j;subst this;have a:(d=48)↔d.toNat=48:=⟨λh=>by rw[h];rfl,λh=>UInt8.toNat_inj.1 h⟩;simp[isNeg,body,oe,a]
    ·have:c≠45:=λe=>j (by rw[e];rfl);simp[isNeg,j,this]
   | c::d::e::l=>
    have:1<(body (c::d::e::l)).length:=by simp only[body];split<;>simp
    have h2:¬ (body (c::d::e::l)).length=1:=by omega
    simp[h2]
  rw[v];cases hs:body s with
  | nil=>simp
  | cons x l=>
   by_cases h1:x.toNat=48<;>cases isNeg s<;>by_cases w:l.length=0<;>cases ((x::l).all fP)<;>simp[oe,h1,w]<;>first | omega | skip
 have p:fm s=if (!gV s)=true then 1 else if 120<(body s).length then 4 else 0:=by unfold fm;cases gV s<;>rfl
 have k:gV s=false->∀h' n',Ext h n h' n'->Q (.i .i64 1) h' n':=λhf h' n' e=>by have:=o h' n' e;rw[p,hf]at this;exact this
 have q:gV s=true->∀h' n',Ext h n h' n'->Q (.i .i64 (if decide ((120:Int)<((body s).length:Nat)) then 4 else 0)) h' n':=λhf h' n' e=>by
  have:=o h' n' e;rw[p,hf]at this;have y:((120:Int)<((body s).length:Nat))↔120<(body s).length:=by omega
  simp only[aW,y];exact this
 by_cases a:(!decide ((body s).length=0)&&(body s).all fP)=true
 ·have h0:(body s).length≠0:=by simp at a;exact λe=>a.1 (List.eq_nil_of_length_eq_zero e)
  have m:0<(body s).length:=by omega
  have r:oe (body s)=(body s)[0].toNat:=aik _;rw[a,xM]at key;by_cases t:(body s)[0].toNat=48
  ·rw[r,nE t,xM]at key;by_cases b:isNeg s=true
   ·rw[b,Bool.true_or]at key;refine θ<|ε<|γ U<|ψ U U<|EW g (by omega) <| λh1 n1 x1=>bZ U<|γ U<|ζ U (congrArg not a)<|γ U<|ζ U (congrArg not a)<|kc U U m<|ζ U (congrArg not a)<|aS U U<|ζ U (congrArg not a)<|γ U<|ζ U (by simp<;>omega)<|γ U<|ζ U (by simp<;>omega)<|γ U<|μ U (b)<|μ U (b)<|μ U (b)<|ζ U (by simp<;>omega)<|aU U (b) U<|ζ U (congrArg not a)<|aU U (by simp<;>omega) U<|aL U (congrArg not a) U<|δ ?_;refine ah U U ?_;refine ε<|γ U<|δ (Γ ⟨_,rfl,k key _ _ x1⟩)
   ·simp only[nG]at b;rw[b,Bool.false_or]at key;refine θ<|ε<|γ U<|ψ U U<|EW g (by omega) <| λh1 n1 x1=>bZ U<|γ U<|ζ U (congrArg not a)<|γ U<|ζ U (congrArg not a)<|kc U U m<|ζ U (congrArg not a)<|aS U U<|ζ U (congrArg not a)<|γ U<|ζ U (by simp<;>omega)<|γ U<|ζ U (by simp<;>omega)<|γ U<|ζ U (b)<|γ U<|ζ U (b)<|bN U<|ζ U (b)<|bC U U<|ζ U (by simp<;>omega)<|aL U (b) U<|ζ U (congrArg not a)<|aU U (by simp<;>omega) U<|aL U (congrArg not a) U<|δ ?_;by_cases u:1<(body s).length
    ·rw[nE u]at key;refine ah U (by simp<;>omega) ?_;refine ε<|γ U<|δ (Γ ⟨_,rfl,k key _ _ x1⟩)
    ·rw[eK u]at key;refine ae U (by simp<;>omega)<|Ω ?_;refine ε<|γ U<|bN U<|bC U U<|ψ U U<|mU g.f248<|γ U<|δ (Γ ⟨_,rfl,q key _ _ x1⟩)
  ·rw[r,eK t,xJ]at key;refine θ<|ε<|γ U<|ψ U U<|EW g (by omega) <| λh1 n1 x1=>bZ U<|γ U<|ζ U (congrArg not a)<|γ U<|ζ U (congrArg not a)<|kc U U m<|ζ U (congrArg not a)<|aS U U<|ζ U (congrArg not a)<|γ U<|μ U (by simp<;>omega)<|μ U (by simp<;>omega)<|dM U<|dM U<|dM U<|μ U (by simp<;>omega)<|ζ U (congrArg not a)<|aL U (by simp<;>omega) U<|aL U (congrArg not a) U<|δ ?_;refine ae U (by simp<;>omega)<|Ω ?_;refine ε<|γ U<|bN U<|bC U U<|ψ U U<|mU g.f248<|γ U<|δ (Γ ⟨_,rfl,q key _ _ x1⟩)
 ·simp only[nG]at a;rw[a,xJ]at key;refine θ<|ε<|γ U<|ψ U U<|EW g (by omega) <| λh1 n1 x1=>bZ U<|γ U<|μ U (congrArg not a)<|μ U (congrArg not a)<|μ U (congrArg not a)<|μ U (congrArg not a)<|dM U<|dM U<|dM U<|dM U<|dM U<|dM U<|μ U (congrArg not a)<|aU U (congrArg not a) U<|δ ?_;refine ah U U ?_;refine ε<|γ U<|δ (Γ ⟨_,rfl,k key _ _ x1⟩)
def Ka{s:S}:gi s=decide (0<=bI 47 s):=by
 have:gi s=true↔0<=bI 47 s:=by rw[Ip];simp[gi]
 cases h:gi s with
 | true=>exact(nE (this.1 h)).symm
 | false=>exact(eK λe=>by rw[this.2 e]at h;cases h).symm
def So(a:Cd C){s:S}(b:Q (.i .i64 (bI 47 s)) h n):ν C (.f 312 [] []) [st s,st [47]] h n Q:=by
 refine ν.go a.f312 U ?_;refine ε<|γ U<|δ ?_;refine ε<|γ U<|bN U<|γ U<|δ ?_;refine θ<|aj ?_;refine ε<|γ U<|aS U U<|γ U<|ζ U (rfl)<|γ U<|ζ U (rfl)<|γ U<|ζ U (rfl)<|eC U U<|aL U (rfl) U<|γ U<|δ ?_;by_cases h1:s=[47]
 ·refine ah U (by rw[h1];rfl) ?_;subst h1;refine ε<|γ U<|δ (Γ ⟨_,rfl,b⟩)
 ·refine ae U (eK (Ne.symm h1)) ?_;refine ε<|γ U<|aS U U<|γ U<|δ ?_;refine ah U U ?_;refine ε<|γ U<|γ U<|kc U U (by simp)<|ψ U U<|Sg a (c:=47) (by omega)<|γ U<|δ (Γ ⟨_,rfl,b⟩)
def ail(a:Cd C){s:S}(b:Q (.i .i64 (bI 47 s)) h n):ν C (.f 295 [] []) [st s,st [47]] h n Q:=by refine ν.go a.f295 U ?_;refine ε<|γ U<|δ ?_;refine ε<|γ U<|γ U<|ψ U U<|So a<|γ U<|δ (Γ ⟨_,rfl,b⟩)
def aim(a:Cd C){s:S}(c:Q (.b (gi s)) h n):ν C (.f 249 [] []) [st s,st [47]] h n Q:=by refine ν.go a.f249 U ?_;refine ε<|γ U<|δ ?_;refine ε<|γ U<|γ U<|ψ U U<|ail a<|dj U U<|γ U<|δ (Γ ⟨_,rfl,by rw[Ka]at c;exact c⟩)
def oN(s:S):V:=match cutAt s with
 | some (p,q)=>.u [st p,st q,.b true]
 | none=>.u [st s,st [],.b false]
def Sp(c:Cd C){s:S}(hl:s.length<1000000)(a:Q (oN s) h n):ν C (.f 277 [] []) [st s,st [47]] h n Q:=by
 refine ν.go c.f277 U ?_;refine ε<|γ U<|γ U<|γ U<|δ ?_;refine θ<|ε<|γ U<|γ U<|ψ U U<|So c<|γ U<|δ ?_;by_cases hb:0<=bI 47 s
 ·obtain⟨j,hj,d,g,i⟩:=adv hb;have b:cutAt s=some (s.take j,s.drop (j+1)):=Jh d (by
   cases l:gi (s.take j) with
   | false=>rfl
   | true=>
    obtain⟨x,m,e⟩:=Ip.1 (of_decide_eq_true (Ka (s:=s.take j)▸l));obtain⟨k,o,rfl⟩:=iX m;rw[List.getElem_take]at e;simp only[ot]at o;exact absurd e (i k (by omega) (by omega))) g
  unfold oN at a;rw[b]at a;rw[hj];refine ε<|γ U<|dj U U<|δ ?_;refine ah U (by simp) ?_;have p:List.take (j - 0) (List.drop 0 s)=s.take j:=by simp
  have q:List.take (s.length - (j+1)) (List.drop (j+1) s)=s.drop (j+1):=kI (by simp);refine cX<|ak U<|ak U<|A5 U U U (by omega) (by omega)<|ak U<|ak U<|ak U<|aau U<|A9 U U ((show((j:Nat):Int)+(([47]:S).length:Nat)=((j+1:Nat):Int) by simp)) ⟨by omega,by omega⟩<|A5 U U U (by omega) (by omega)<|ak U<|ak U<|ak U<|bU (by simp[AG,jD,mn,Nat.testBit]) ?_;refine Γ ⟨_,rfl,?_⟩;rw[p,q];exact a
 ·have b:cutAt s=none:=Jg (by rw[Ka];simpa using hb);unfold oN at a;rw[b]at a;refine ε<|γ U<|dj U U<|δ ?_;refine ae U (by simpa using hb)<|Ω ?_;refine ε<|γ U<|γ U<|γ U<|γ U<|δ (Γ ⟨_,rfl,a⟩)
def Sq(d:Cd C){s:S}(hl:s.length<1000000)(a:Q (oN s) h n):ν C (.f 221 [] []) [st s,st [47]] h n Q:=by
 refine ν.go d.f221 U ?_;refine ε<|γ U<|γ U<|γ U<|δ ?_;unfold oN at a;cases c:cutAt s with
 | none=>
  rw[c]at a;have hv:oN s=.u [st s,st [],.b false]:=by unfold oN;rw[c]
  have key:∀{Q:V->Hf->K->Prop},Q (.u [st s,st [],.b false]) h n->ν C (.f 277 [] []) [st s,st [47]] h n Q:=λa=>Sp d hl (by rw[hv];exact a);refine ε<|γ U<|γ U<|ψ U U<|key<|bF U U<|bF U U<|bF U U<|γ U<|γ U<|γ U<|δ (Γ ⟨_,rfl,a⟩)
 | some e=>
  obtain⟨p,q⟩:=e;rw[c]at a;have hv:oN s=.u [st p,st q,.b true]:=by unfold oN;rw[c]
  have key:∀{Q:V->Hf->K->Prop},Q (.u [st p,st q,.b true]) h n->ν C (.f 277 [] []) [st s,st [47]] h n Q:=λa=>Sp d hl (by rw[hv];exact a);refine ε<|γ U<|γ U<|ψ U U<|key<|bF U U<|bF U U<|bF U U<|γ U<|γ U<|γ U<|δ (Γ ⟨_,rfl,a⟩)
end
section
variable {C:Nat->Option aI}{h:Hf}{n:K}{Q:V->Hf->K->Prop}
def en{v:V}(h:v.one=true):aD [v]=true:=by simp only[aD,h];rfl
def BT(d:Cd C){v:V}{l:List Nat}(hv:aF h n .u32 v l)(hlen:l.length<1000000)(e:∀h' n',Ext h n h' n'->Q (.b (decide (l.length=0))) h' n'):ν C (.f 252 [] []) [.a [v]] h n Q:=by refine ν.go d.f252 U ?_;refine ε<|cR U U (en hv.one) <| λh1 n1 i g c=>γ U<|δ ?_;refine ε<|σ U<|ξ U (cE g rfl _)<|al U (hv.ext c)<|aS U U<|γ U<|δ (Γ ⟨_,rfl,?_⟩);have:=e _ _ c;rw[show decide (((l.length:Nat):Int)=0)=decide (l.length=0) from by by_cases h:l.length=0<;>simp[h]];exact this
def ain(j:Cd C){v:V}{l:List Nat}(hv:aF h n .u32 v l)(hlen:l.length<1000000)(i:∀h' n',Ext h n h' n'->Q (.b (decide (l=[1]))) h' n'):ν C (.f 254 [] []) [.a [v]] h n Q:=by
 refine ν.go j.f254 U ?_;refine ε<|cR U U (en hv.one) <| λh1 n1 k d g=>γ U<|δ ?_;have c:=hv.ext g;by_cases h1:l.length=1
 ·have h0:0<l.length:=by omega
  refine ε<|σ U<|ξ U (cE d rfl _)<|al U c<|aS U U<|γ U<|ζ U (by simp[h1])<|σ U<|ζ U (by simp[h1])<|ξ U (cE d rfl _)<|ζ U (by simp[h1])<|aB U U c h0<|ζ U (by simp[h1])<|ξ U (c.get h0 _)<|ζ U (by simp[h1])<|aS U U<|aU U (by simp[h1]) U<|γ U<|δ (Γ ⟨_,rfl,?_⟩);have:=i _ _ g;rw[show decide (((l[0]:Nat):Int)=1)=decide (l=[1]) from by
   match l,h1 with
   | [x],_=>by_cases h:x=1<;>simp[h];omega]
  exact this
 ·refine ε<|σ U<|ξ U (cE d rfl _)<|al U c<|aS U U<|γ U<|μ U (by simp<;>omega)<|μ U (by simp<;>omega)<|μ U (by simp<;>omega)<|μ U (by simp<;>omega)<|μ U (by simp<;>omega)<|aL U (by simp<;>omega) U<|γ U<|δ (Γ ⟨_,rfl,?_⟩);have:=i _ _ g;rw[show decide (l=[1])=false from eK λe=>h1 (by rw[e];rfl)]at this;exact this
def Sr(d:Cd C){a b:Nat}(c:Q (.i .i64 (fk a b)) h n):ν C (.f 347 [] []) [iN a,iN b] h n Q:=by
 refine ν.go d.f347 U ?_;refine ε<|γ U<|δ ?_;refine θ<|ε<|γ U<|γ U<|ay U U<|δ ?_;unfold fk at c;by_cases h1:a<b
 ·rw[ao h1]at c;refine ah U (by simp<;>omega) ?_;refine ε<|γ U<|δ (Γ ⟨_,rfl,c⟩)
 ·rw[Θ h1]at c;refine ae U (by simp<;>omega)<|Ω ?_;refine θ<|ε<|γ U<|γ U<|bC U U<|δ ?_;by_cases h2:b<a
  ·rw[ao h2]at c;refine ah U (by simp<;>omega) ?_;refine ε<|γ U<|δ (Γ ⟨_,rfl,c⟩)
  ·rw[Θ h2]at c;refine ae U (by simp<;>omega)<|Ω ?_;refine ε<|γ U<|δ (Γ ⟨_,rfl,c⟩)
def Kb(d:Cd C){v:V}{l:List Nat}{b:K}(hv:aF h n .u32 v l)(hlen:l.length<1000000)(hb:Cl h n b [.i .u32 0] 342)(a:Q (.b (decide (0<l.length/\l.getD (l.length - 1) 1=0))) h n):ν C (.f 327 [] [.p b 0]) [v] h n Q:=by
 refine ν.go d.f327 U ?_;refine ε<|γ U<|δ ?_;by_cases h1:0<l.length
 ·have c:l.length - 1<l.length:=by omega
  have g1:=hv.get c 1;have g:bj h false 1 (.p b 0)=some (.i .u32 0):=hb.ld U 1;refine cX<|ak U<|AY U hv<|sH U U<|ak U<|aR U (by simp<;>omega)<|ak U<|aR U (by simp<;>omega)<|ak U<|aR U (by simp<;>omega)<|AY U hv<|aR U (by simp<;>omega)<|yu U U ((show((l.length:Nat):Int) - 1=((l.length - 1:Nat):Int) by omega)) ⟨by omega,by omega⟩<|aR U (by simp<;>omega)<|cK U U hv c<|aR U (by simp<;>omega)<|aC U g1 U (by simp[cI,fS,cB,ic])<|aR U (by simp<;>omega)<|aC U g U (by simp[cI,fS,cB,ic])<|aR U (by simp<;>omega)<|wy U U<|yp U (by simp<;>omega) U<|ak U<|bU (by simp[AG,jD,mn,Nat.testBit]) ?_;refine Γ ⟨_,rfl,?_⟩;have e:l.getD (l.length - 1) 1=l[l.length - 1]:=by rw[dH,df c];rfl
  rw[e]at a;rw[show decide (((l[l.length - 1]:Nat):Int)=0)=decide (0<l.length/\l[l.length - 1]=0) from by by_cases h:l[l.length - 1]=0<;>simp[h]<;>omega]
  exact a
 ·have e:decide (0<l.length/\l.getD (l.length - 1) 1=0)=false:=eK λe=>h1 e.1;rw[e]at a;refine cX<|ak U<|AY U hv<|sH U U<|ak U<|dN U (eK (show ¬ (0:Int)<((l.length:Nat):Int) by omega))<|dN U (eK (show ¬ (0:Int)<((l.length:Nat):Int) by omega))<|dN U (eK (show ¬ (0:Int)<((l.length:Nat):Int) by omega))<|dN U (eK (show ¬ (0:Int)<((l.length:Nat):Int) by omega))<|dN U (eK (show ¬ (0:Int)<((l.length:Nat):Int) by omega))<|dN U (eK (show ¬ (0:Int)<((l.length:Nat):Int) by omega))<|dN U (eK (show ¬ (0:Int)<((l.length:Nat):Int) by omega))<|dN U (eK (show ¬ (0:Int)<((l.length:Nat):Int) by omega))<|pz U (eK (show ¬ (0:Int)<((l.length:Nat):Int) by omega)) U<|ak U<|bU (by simp[AG,jD,mn,Nat.testBit]) ?_;exact Γ ⟨_,rfl,a⟩
def aio(k:Cd C){v0:V}{l:List Nat}{b:K}(hlen:l.length<1000000){Q1:Ex->Env->Hf->K->Prop}(hb:Cl h n b [.i .u32 0] 342){n0:K}(o:n0.num<=n.num)
 (a:∀v' E',aF h n0 .u32 v' (cG l)->v'.blk=v0.blk->(v0=.ns->v'=.ns)->ρ [(k0,v')] E'->Q1 .normal E' h n):
 ∀(m:Nat) (v:V),m<=l.length->aF h n0 .u32 v (l.take m)->v.blk=v0.blk->(v0=.ns->v=.ns)->cG l=cG (l.take m)->WC C abt [(k0,v),(k4,.f 327 [] [.p b 0])] h n (blk 0 Q1):=by
 intro m
 induction m with
 | zero=>
  intro v hm hv d g hs;have c:∀{Q:V->Hf->K->Prop},Q (.b false) h n->ν C (.f 327 [] [.p b 0]) [v] h n Q:=λa=>Kb k (hv.up o) (by simp<;>omega) hb (by simpa using a);refine ax ?_;refine θ<|ε<|γ U<|γ U<|ψ U U<|c<|δ ?_;refine ae U U<|aJ (a v _ (by rw[hs];simpa[cG]using hv) d g (ρ.rf U))
 | succ m ih=>
  intro v hm hv d g hs;have q:m<l.length:=by omega
  have j:(l.take (m+1)).length=m+1:=by simp<;>omega
  have r:(l.take (m+1)).getD ((l.take (m+1)).length - 1) 1=l[m]:=by rw[j,Nat.add_sub_cancel,dH,df (by rw[j];omega),List.getElem_take];rfl
  refine ax ?_;by_cases h0:l[m]=0
  ·have c:∀{Q:V->Hf->K->Prop},Q (.b true) h n->ν C (.f 327 [] [.p b 0]) [v] h n Q:=λa=>Kb k (hv.up o) (by omega) hb (by rw[r,j];simpa[h0]using a);refine θ<|ε<|γ U<|γ U<|ψ U U<|c<|δ ?_;refine ah U U<|Ω ?_;refine aj<|aA<|γ U<|γ U<|al U hv<|jR U U ((show(((l.take (m+1)).length:Nat):Int) - 1=((m:Nat):Int) by omega)) ⟨by omega,by omega⟩<|A6 U hv U U (by omega) ((by omega)) <| λs t l2=>γ U<|δ ?_;refine χ (ih s (by omega) ?_ (by rw[l2.2.1,d]) (λe=>l2.2.2 (g e)) (by rw[hs,RQ q h0])) (ρ.rf U);have:=aF.sub t (by omega);rw[gb,mF,List.take_take,rW (by omega)]at this;exact this
  ·have c:∀{Q:V->Hf->K->Prop},Q (.b false) h n->ν C (.f 327 [] [.p b 0]) [v] h n Q:=λa=>Kb k (hv.up o) (by omega) hb (by rw[r,j];simpa[h0]using a);refine θ<|ε<|γ U<|γ U<|ψ U U<|c<|δ ?_;refine ae U U<|aJ (a v _ (by rw[hs,RR q h0];exact hv) d g (ρ.rf U))
def aiq(a:Cd C){v:V}{l:List Nat}{n0:K}(hv:aF h n0 .u32 v l)(hlen:l.length<1000000)(b:∀v',aF h n0 .u32 v' l->v'.blk=v.blk->(v=.ns->v'=.ns)->Q v' h n):ν C (.f 328 [] []) [v] h n Q:=by refine ν.go a.f328 U ?_;refine ε<|γ U<|δ ?_;refine ε<|γ U<|γ U<|al U hv<|γ U<|al U hv<|aaP U hv U U <| λc d l2=>γ U<|δ (Γ ⟨_,rfl,b c d l2.2.1 l2.2.2⟩)
def uM(a:Cd C){v:V}{l:List Nat}{n0:K}(t:n0.num<=n.num)(hv:aF h n0 .u32 v l)(hlen:l.length<1000000)(d:∀v' h' n',Ext h n h' n'->aF h' n0 .u32 v' (cG l)->v'.blk=v.blk->(v=.ns->v'=.ns)->Q v' h' n'):ν C (.f 298 [] []) [v] h n Q:=by refine ν.go a.f298 U ?_;refine ε<|γ U<|δ ?_;refine ε<|bA <| λh1 n1 u g c=>δ ?_;have j:aF h1 n0 .u32 v l:=hv.at_ (c.trans' (φ _) (λ_ _=>rfl) |> λx=>⟨by have:=x.1;omega,λk w=>c.2 k (by omega)⟩);refine ε<|rC U U<|γ U<|δ ?_;refine θ<|aj<|χ (aio a hlen (b:=n) ⟨by omega,g⟩ (n0:=n0) (by omega) (λv' E' i hb m o=>bS o ?_) l.length v (φ _) (by rw[eN];exact j) U id (by rw[eN])) (ρ.rf U);have y:=wN l;refine ε<|γ U<|ψ U U<|aiq a i (by omega) <| λp q r s=>γ U<|δ (Γ ⟨_,rfl,d p _ _ c q (by rw[r,hb]) (λe=>s (m e))⟩)
def yK(j:Cd C){v:V}{l:List Nat}{i:Nat}(hv:aF h n .u32 v l)(hs:Sm 1000000000 l)(hlen:l.length<1000000)(b:∀h' n',Ext h n h' n'->Q (.i .u64 (l.getD i 0:Nat)) h' n'):ν C (.f 331 [] []) [.a [v],iN i] h n Q:=by
 refine ν.go j.f331 U ?_;refine ε<|cR U U (en hv.one) <| λh1 n1 k g c=>γ U<|δ ?_;have d:=hv.ext c;refine θ<|ε<|γ U<|σ U<|ξ U (cE g rfl _)<|al U d<|ay U U<|δ ?_;by_cases hi:i<l.length
 ·refine ah U (by simp<;>omega) ?_;have m:=hs.get hi;have e:=gW hi;rw[e]at b;refine ε<|σ U<|ξ U (cE g rfl _)<|γ U<|aB U U d hi<|ξ U (d.get hi _)<|kS U ⟨by omega,by omega⟩<|γ U<|δ (Γ ⟨_,rfl,b _ _ c⟩)
 ·refine ae U (by simp<;>omega)<|Ω ?_;have e:l.getD i 0=0:=by rw[dH,qY (by omega)];rfl
  rw[e]at b;refine ε<|γ U<|δ (Γ ⟨_,rfl,b _ _ c⟩)
end
section
variable {C:Nat->Option aI}{h:Hf}{n:K}{Q:V->Hf->K->Prop}
abbrev Bg:Nat:=1000000000
def aF.toI{k:IntKind}{v:V}{l:List Nat}(a:aF h n k v l):da h n k v (l.map λ(x:Nat)=>(x:Int)):=by have:κ h n 1 v l.length (nC k l):=a;rw[Ph]at this;unfold da;rw[kJ];exact this
def Kc(d:Cd C){t:V}{ik:IntKind}{l:List Nat}(ht:aF h n ik t l)(hlen:l.length<1000000)
 (g:∀b e h' n',Ext h n h' n'->h' b=some (.c [t] e 0)->b.num<n'.num->n.num<=b.num->Iter C (.f 349 [] [.p b 0]) (λh n=>b.num<n.num/\h b=some (.c [t] e 0)/\aF h n ik t l) (wF (λj=>.i ik (l.getD j 0:Nat)) l.length)->Q (.f 349 [] [.p b 0]) h' n'):ν C (.f 330 [] []) [t] h n Q:=by
 refine afT d ht.toI (by simpa using hlen) (λj=>.i ik (l.getD j 0:Nat)) (λi hi=>by rw[kJ]at hi;simp[dH,hi]) ?_;intro b e h' n' k m h1 h2 it;refine g b e h' n' k m h1 h2 ?_;have:(λ(h:Hf) (n:K)=>b.num<n.num/\h b=some (.c [t] e 0)/\aF h n ik t l) = λh n=>b.num<n.num/\h b=some (.c [t] e 0)/\da h n ik t (l.map λ(x:Nat)=>(x:Int)):=by funext h n;unfold aF da;rw[kJ,Ph]
 rw[this];rw[kJ]at it;exact it
def Ss(r:Cd C){va vb:V}{a b:List Nat}(eJ:a.length<1000)(eH:b.length<1000)(w:dC Bg a)(hb:dC Bg b)(H:aF h n .u32 va a)(ib:aF h n .u32 vb b)(x:∀h' n',Ext h n h' n'->Q (.i .i64 (fk (val Bg a) (val Bg b))) h' n'):ν C (.f 319 [] []) [.a [va],.a [vb]] h n Q:=by
 refine ν.go r.f319 U ?_;refine ε<|cR U U (en H.one) <| λh1 n1 cA O P=>cR U U (en ib.one) <| λh2 s dS R J=>bA <| λm o gJ S y=>δ ?_;have x3:=(P.trans J).trans y;have c2:Cl m o n [va] 297:=Cl.ext (Cl.ext ⟨by omega,O⟩ J) y;have c3:Cl m o n1 [vb] 297:=Cl.ext ⟨by omega,R⟩ y;have c4:Cl m o s [.i .i64 0] 3:=⟨by omega,S⟩;have t:=H.ext x3;have z:=ib.ext x3;refine θ<|ε<|σ U<|ξ U (c2.ld U _)<|al U t<|σ U<|ξ U (c3.ld U _)<|al U z<|dR U U<|δ ?_;by_cases hl:a.length=b.length
 ·refine ae U (by simp[hl])<|Ω ?_;refine θ<|ε<|σ U<|ξ U (c2.ld U _)<|ψ U U<|Kc r t (by omega) ?_;intro L e h4 A M T je dY it;refine δ ?_;have y4:=M.1;let I:Nat->Hf->K->Prop:=λj h' n'=>Ext m o h' n'/\(L.num<n'.num/\h' L=some (.c [va] e 0))/\a.drop (a.length - j)=b.drop (a.length - j);let D:Ex->Hf->K->Prop:=λex h' n'=>ex=.ret/\∃h1,Ext m o h1 n'/\h' s=some (.c [.i .i64 (fk (val Bg a) (val Bg b))] 3 0)/\bm s h1 h';refine aj<|sJ U it I D ?_ ?_ ?_ ?_ ?_ ?_ ?_ ?_
  ·rintro j h1 n1 h' n' ⟨g1,⟨d,k⟩,g⟩ ex;exact⟨g1.trans ex,⟨ep d ex.1,by rw[ex.2 _ d];exact k⟩,g⟩
  ·rintro j h1 n1 h' ⟨g1,⟨d,k⟩,g⟩ l;exact⟨g1.ab l (by omega),⟨d,by rw[l _ (by omega)];exact k⟩,g⟩
  ·rintro j h1 n1 ⟨g1,d,_⟩;exact⟨d.1,d.2,t.ext g1⟩
  ·intro j hj;rw[sQ];rfl
  ·intro h' l;have Mp:A.succ.num=A.num+1:=K.eF A;exact⟨(M.ab l (by omega)).succ,⟨by omega,by rw[l _ (by omega)];exact T⟩,by rw[mF,jw,hl,jw]⟩
  ·rintro j hj h5 W E1 u ⟨g1,⟨d,k⟩,g⟩ B;have bV:j<a.length:=by rw[qs]at hj;exact hj
   rw[sQ]at B;simp only[jB,lK]at B;subst B;have hi:a.length - 1 - j<a.length:=by omega
   have p:a.length - 1 - j<b.length:=by omega
   rw[show a.length - j=(a.length - 1 - j)+1 by omega]at g;have X:a.length - (j+1)=a.length - 1 - j:=by omega
   generalize a.length - 1 - j=i at*;rw[gW hi];refine ε<|γ U<|δ<|aA<|γ U<|δ ⟨rfl,rfl,λE b7=>?_⟩;have q:Ext m o E W:=g1.ab b7 (by omega);have v:=z.ext q;have N:=c3.ext q;have Y:=c4.ext q;have Z:a[i]<Bg:=w.1.get hi;have q2:b[i]<Bg:=hb.1.get p;simp only[Bg]at Z q2;refine aj<|ε<|γ U<|σ U<|ξ U (N.ld U _)<|γ U<|aB U U v p<|ξ U (v.get p _)<|dR U U<|δ ?_;by_cases he:a[i]=b[i]
   ·refine ae U (by simp<;>omega)<|Ω ⟨u,rfl,q,⟨d,by rw[b7 _ (by omega)];exact k⟩,?_⟩;rw[X,eo hi,eo p,g,he]
   ·refine ah U (by simp<;>omega) ?_;have F:=Rv w.1 hb.1 hl hi g he;refine ε<|γ U<|kS U ⟨by omega,by omega⟩<|σ U<|ξ U (N.ld U _)<|γ U<|aB U U v p<|ξ U (v.get p _)<|kS U ⟨by omega,by omega⟩<|ψ U U<|Sr r<|aH U U Y.2 U <| λh8 G b8=>δ ?_;exact Γ ⟨u,b8 _ (by omega),rfl,E,q,by rw[F];exact G,b8⟩
  ·rintro h' n' u ⟨g1,⟨d,k⟩,g⟩;rw[qs,lL,gb,gb]at g;subst g;refine ε<|aH U U ((c4.ext g1).2) U <| λE a7 b7=>δ ?_;refine Γ ⟨_,jE rfl (cE a7 rfl _),?_⟩;have:=x _ _ ((x3.trans g1).ab b7 (by omega));rw[Rw]at this;exact this
  ·rintro ex h' n' oF u ⟨rfl,lB,g1,d,k⟩ l;refine⟨_,jE rfl (cE (show oF s=_ by rw[l _ (by omega)];exact d) U _),?_⟩;exact x _ _ (((x3.trans g1).ab k (by omega)).ab l (by omega))
 ·have F:=Ru w hb (by decide) hl;refine ah U (by simp<;>omega) ?_;refine ε<|σ U<|ξ U (c2.ld U _)<|al U t<|σ U<|ξ U (c3.ld U _)<|al U z<|ψ U U<|Sr r<|aH U U c4.2 U <| λh8 G b8=>δ ?_;refine Γ ⟨_,jE rfl (cE G rfl _),?_⟩;rw[←F];exact x _ _ (x3.ab b8 (by omega))
def kl{v:V}(h:bk n v=true):bk n (.a [v])=true:=by simp[bk,fC,h]
def km{v:V}(h:cI v v=true):cI (.a [v]) (.a [v])=true:=by simp[cI,jA,h]
def air{α:Type}{l:List α}{i:Nat}{x:α}:(l.set i x).take i=l.take i:=by
 apply vO
 ·simp
 ·intro j h1 h2;simp only[ot,gZ]at h1;simp only[List.getElem_take];rw[xL (by omega)]
def Su{α:Type}{l:List α}{i:Nat}{x:α}:(l.set i x).drop (i+1)=l.drop (i+1):=by
 apply vO
 ·simp
 ·intro j h1 h2;simp only[List.getElem_drop];rw[xL (by omega)]
section
variable {h0:Hf}{n0 b3 bo:K}{x2 x4 vb:V}{a b:List Nat}
structure Ls(h0:Hf)(n0:K)(h:Hf)(n:K)(b3 bo:K)(vb:V)(L:Nat)(out:List Nat):Prop where
 ext:Ext h0 n0 h n
 c3:Cl h n b3 [vb] 297
 co:Cl h n bo (nC .u32 out) 342
 lo:n0.num<=bo.num
 zy:b3.num≠bo.num
 len:out.length=L
def ais(A:Cd C)(O:a.length<1000)(P:b.length<1000)(D:Sm Bg a)(hb:Sm Bg b)(ib:aF h0 n0 .u32 vb b){Q1:Ex->Env->Hf->K->Prop}:
 ∀(m i:Nat) (out:List Nat) (c:Nat) (h:Hf) (n:K),a.length - i=m->i<=a.length->Ls h0 n0 h n b3 bo vb a.length out->Sm Bg out->out.drop i=a.drop i->c<=1->val Bg (out.take i)+val Bg (b.take i)=val Bg (a.take i)+c*Bg ^ i->(∀(out:List Nat) (c:Nat) (h:Hf) (n:K) E',Ls h0 n0 h n b3 bo vb a.length out->Sm Bg out->c<=1->val Bg out+val Bg (b.take a.length)=val Bg a+c*Bg ^ a.length->ρ [(k4,x4),(k5,.sl bo 0 a.length a.length)] E'->Q1 .normal E' h n)->WC C PE [(k3,.p b3 0),(k4,x4),(k5,.sl bo 0 a.length a.length),(k6,iN c),(FV,iN a.length),(A1,iN i)] h n (blk 0 Q1):=by
 intro m
 induction m with
 | zero=>
  intro i out c h n hm hi p hs l w hv q;have e:i=a.length:=by omega
  subst e;refine ax ?_;refine ε<|ay U U<|δ ?_;refine θ<|ae U (by simp)<|aJ ?_;rw[eN,kI (by rw[p.len];omega)]at hv;exact q out c h n _ p hs w hv (ρ.rf U)
 | succ m ih=>
  intro i out c h n hm hi p hs s w hv q;have r:i<a.length:=by omega
  have g:i<out.length:=by rw[p.len];exact r
  have io:aF h n .u32 (.sl bo 0 a.length a.length) out:=p.co.oJ p.len;have u:=(ib.at_ p.ext).up p.ext.1;have heq:out[i]=a[i]:=by rw[eo g,eo r]at s;injection s
  have g1:bj h false 1 (.p (V.sl bo 0 a.length a.length).blk ((V.sl bo 0 a.length a.length).off+i*1))=some (.i .u32 (out[i]:Nat)):=io.get g 1;have x:∀{h'} {n'},Ext h n h' n'->bj h' false 1 (.p (V.sl bo 0 a.length a.length).blk ((V.sl bo 0 a.length a.length).off+i*1))=some (.i .u32 (out[i]:Nat)):=λe=>((p.co.ext e).oJ p.len).get g 1;have E:a[i]<Bg:=D.get r;have F:=hb.getD (by decide) i;have y:=rI (B:=Bg) a i;have G:=rI (B:=Bg) b i;rw[gW r]at y;simp only[Bg]at E F;have H:∀{Q:V->Hf->K->Prop},(∀h' n',Ext h n h' n'->Q (.i .u64 (b.getD i 0:Nat)) h' n')->ν C (.f 331 [] []) [.a [vb],iN i] h n Q:=λq=>yK A u hb (by omega) q;rw[heq]at g1 x;generalize R:b.getD i 0=bd at*;generalize S:a[i]=k at*;refine ax ?_;refine ε<|ay U U<|δ ?_;refine θ<|ah U (by simp<;>omega)<|Ω ?_;refine θ<|aj<|ε<|γ U<|γ U<|δ ?_;refine cX<|ak U<|ak U<|cK U U io g<|aC U g1 U (by simp[cI,fS,cB,ic])<|rB U ⟨by omega,by omega⟩<|aC U (bc p.c3.2 rfl) (kl (u.below (φ _))) (km (κ.cH u))<|ak U<|aY U U<|H <| λh1 n1 t=>rB U ⟨by omega,by omega⟩<|yn U U ⟨by omega,by omega⟩<|ak U<|yn U U ⟨by omega,by omega⟩<|ak U<|bU (⟨⟨ω (by simp[Nat.testBit]),trivial⟩,⟨bH g1 (x t),trivial⟩,trivial⟩) ?_;refine ε<|γ U<|δ ?_;refine θ<|ε<|γ U<|ay U U<|δ ?_;have o:Ls h0 n0 h1 n1 b3 bo vb a.length out:=⟨p.ext.trans t,p.c3.ext t,p.co.ext t,p.lo,p.zy,p.len⟩;have I:aF h1 n1 .u32 (.sl bo 0 a.length a.length) out:=o.co.oJ o.len;have fin:∀(d j:Nat),d<1000000000->j<=1->((d:Int)=(k:Int) - (bd:Int) - (c:Int)+j*1000000000)->WC C abB [(k3,.p b3 0),(k4,x4),(k5,.sl bo 0 a.length a.length),(k6,iN j),(k7,iN i),(k8,iN d),(FV,iN a.length),(A1,iN i)] h1 n1 (blk 1 (sq C abC (sq C (.loop Ie) (blk 0 Q1)))):=by
   intro d j l J he;refine aA<|γ U<|γ U<|γ U<|kS U ⟨by omega,by omega⟩<|aB U U I g<|aH U U o.co.2 (uy g _ (by simp[V.off])) <| λh2 L b2=>δ ?_;refine aA<|aX U U ⟨by omega,by omega⟩<|γ U<|δ ?_;have M:Ls h0 n0 h2 n1 b3 bo vb a.length (out.set i d):=⟨o.ext.ab b2 p.lo,o.c3.ab b2 p.zy,⟨o.co.1,L⟩,p.lo,p.zy,by rw[gZ];exact p.len⟩;refine χ (ih (i+1) (out.set i d) j h2 n1 (by omega) (by omega) M (hs.set l) ?_ J ?_ q) (ρ.rf U)
   ·rw[Su];rw[eo g,eo r]at s;injection s
   ·have z:=rI (B:=Bg) (out.set i d) i;rw[air,uJ,ao ⟨rfl,g⟩]at z;rw[z,y,G];have N:d+bd+c=k+j*Bg:=by simp only[Bg];omega
    have T:Bg ^ i*d+Bg ^ i*bd+Bg ^ i*c=Bg ^ i*k+j*Bg ^ (i+1):=by rw[←eV,←eV,N,eV,fy];congr 1;rw[cT j Bg,←gn,cT]
    have W:c*Bg ^ i=Bg ^ i*c:=cT _ _;omega
  refine cm U (λv=>?_) (λv=>?_)
  ·simp only[aW]at v;obtain⟨d,l⟩:∃d:Nat,(d:Int)=(k:Int) - (bd:Int) - (c:Int)+1000000000:=⟨((k:Int) - (bd:Int) - (c:Int)+1000000000).toNat,by omega⟩;refine aA<|γ U<|gT U U l.symm ⟨by omega,by omega⟩<|γ U<|γ U<|δ ?_;exact χ (fin d 1 (by omega) (by omega) (by omega)) (ρ.rf U)
  ·simp only[cg]at v;obtain⟨d,l⟩:∃d:Nat,(d:Int)=(k:Int) - (bd:Int) - (c:Int):=⟨((k:Int) - (bd:Int) - (c:Int)).toNat,by omega⟩;refine Ω ?_;rw[←l];exact χ (fin d 0 (by omega) (by omega) (by omega)) (ρ.rf U)
end
def Sv(i:Cd C){va vb:V}{a b:List Nat}(B:a.length<1000)(D:b.length<1000)(j:Sm Bg a)(hb:dC Bg b)(t:aF h n .u32 va a)(ib:aF h n .u32 vb b)(hle:val Bg b<=val Bg a)
 (E:∀v' l' h' n',Ext h n h' n'->aF h' n' .u32 v' l'->dC Bg l'->val Bg l'=val Bg a - val Bg b->(v'=.ns\/n.num<=v'.blk.num)->Q (.a [v']) h' n'):ν C (.f 320 [] []) [.a [va],.a [vb]] h n Q:=by
 refine ν.go i.f320 U ?_;refine ε<|cR U U (en t.one) <| λh1 n1 Z F G=>cR U U (en ib.one) <| λh2 k dS H u=>bA <| λe c gJ I l=>δ ?_;have x3:=(G.trans u).trans l;have c2:Cl e c n [va] 297:=Cl.ext (Cl.ext ⟨by omega,F⟩ u) l;have c3:Cl e c n1 [vb] 297:=Cl.ext ⟨by omega,H⟩ l;have c4:Cl e c k [.ns] 297:=⟨by omega,I⟩;have v:=t.ext x3;have J:=ib.ext x3;refine ε<|σ U<|ξ U (c2.ld U _)<|al U v<|pA U U (by omega) (by omega) <| λh4 m jZ w o=>γ U<|δ ?_;rw[wA]at w;have L:=v.ext o;refine ε<|γ U<|σ U<|ξ U ((c2.ext o).ld U _)<|Po U w ((by rw[HX,List.length_replicate,jz])) U L (aaV _) <| λq M b5=>δ ?_;refine ε<|γ U<|δ ?_;have x:Ext e c q m:=o.ab b5 (φ _);have p:Ls e c q m n1 c vb a.length a:=⟨x,c3.ext x,⟨by omega,M⟩,φ _,by omega,rfl⟩;refine θ<|ε<|γ U<|al U (p.co.oJ U)<|γ U<|δ ?_;refine aj<|χ (ais (x4:=.p k 0) i B D j hb.1 J _ 0 a 0 q m rfl (by omega) p j rfl (by omega) (by simp[val]) ?_) (ρ.rf U);intro out r N O E6 d hs Wp hv P;refine bS P ?_;have R:b.length<=a.length:=nV hb.2 j (by decide) hle;rw[kI R]at hv;have h2:=nT hs;rw[d.len]at h2;have S:r=0:=by
  rcases iG 0 r with h | h
  ·have:r=1:=by omega
   subst this;omega
  ·omega
 subst S;have io:aF N O .u32 (.sl c 0 a.length a.length) out:=d.co.oJ d.len;have T:=c4.ext d.ext;refine ε<|γ U<|ψ U U<|uM i (φ _) io (by have:=d.len;omega) <| λW h7 y s g z oW=>ji (mW rfl g.cells g.one)<|aH U U ((T.ext s).2) (cj rfl rfl (en g.one)) <| λA X b8=>δ ?_;have Y:Ext h n A y:=((x3.trans d.ext).trans s).ab b8 (by omega);refine Γ ⟨_,jE rfl (bc X rfl),?_⟩;exact E W (cG out) A y Y ((g.up s.1).ab b8 (Or.inr (by rw[z];show c.num≠k.num;omega))) (pB hs) (by rw[nU];omega) (Or.inr (by rw[z];show n.num<=c.num;omega))
end
section
variable {C:Nat->Option aI}{h:Hf}{n:K}{Q:V->Hf->K->Prop}
section
variable {h0:Hf}{n0 b3 bo:K}{x4 va vb:V}{a b:List Nat}
abbrev Em(b3 bo:K)(x4 va:V)(L c lb i d:Nat)(r:Env):Env:=
 (k3,.p b3 0)::(k4,x4)::(k5,.sl bo 0 L L)::(k6,iN i)::(k7,.i .u32 (d:Nat))::(FX,va)::(VT,iN c)::(LX,iN i)::(k31,.i .i64 ((lb+1:Nat):Int))::r
def Sw(o:Cd C)(E:a.length<1000)(F:b.length<1000)(q:Sm Bg a)(hb:Sm Bg b)(ib:aF h0 n0 .u32 vb b){i:Nat}(hi:i<a.length){out:List Nat}{carry j:Nat}
 (p:Ls h0 n0 h n b3 bo vb (a.length+b.length+1) out)(hs:Sm Bg out)(r:carry<Bg)(hj:j<=b.length){Q1:Ex->Env->Hf->K->Prop}
 (k:∀h' n' E',Ls h0 n0 h' n' b3 bo vb (a.length+b.length+1) (out.set (i+j) ((out.getD (i+j) 0+a[i]*b.getD j 0+carry) % Bg))->ρ (Em b3 bo x4 va (a.length+b.length+1) a.length b.length i a[i] [(k8,.i .u64 ((out.getD (i+j) 0+a[i]*b.getD j 0+carry) / Bg:Nat)),(VW,iN j)]) E'->Q1 .normal E' h' n'):
 WC C abA (Em b3 bo x4 va (a.length+b.length+1) a.length b.length i a[i] [(k8,.i .u64 (carry:Nat)),(VW,iN j)]) h n Q1:=by
 have io:aF h n .u32 (.sl bo 0 (a.length+b.length+1) (a.length+b.length+1)) out:=p.co.oJ p.len;have s:i+j<a.length+b.length+1:=by omega
 have c:i+j<out.length:=by rw[p.len];exact s
 have go:=io.get c 1;have go':∀{h'} {n'},Ext h n h' n'->bj h' false 1 (.p (V.sl bo 0 (a.length+b.length+1) (a.length+b.length+1)).blk ((V.sl bo 0 (a.length+b.length+1) (a.length+b.length+1)).off+(i+j)*1))=some (.i .u32 (out[i+j]:Nat)):=λe=>((p.co.ext e).oJ p.len).get c 1;have l:=(ib.at_ p.ext).up p.ext.1;have t:out[i+j]<Bg:=hs.get c;have u:a[i]<Bg:=q.get hi;have v:b.getD j 0<Bg:=hb.getD (by decide) j;have w:=r;simp only[Bg]at t u v w;rw[gW c]at k;have y:∀{Q:V->Hf->K->Prop},(∀h' n',Ext h n h' n'->Q (.i .u64 (b.getD j 0:Nat)) h' n')->ν C (.f 331 [] []) [.a [vb],iN j] h n Q:=λk=>yK o l hb (by omega) k;generalize G:out[i+j]=m at*;generalize H:a[i]=d at*;generalize I:b.getD j 0=bd at*;have hmul:d*bd<=999999999*999999999:=ua (by omega) (by omega);have z:(d:Int)*(bd:Int)=(d*bd:Nat):=by simp
 refine ε<|γ U<|γ U<|δ ?_;refine cX<|ak U<|ak U<|ak U<|A9 U U (show(i:Int)+(j:Int)=((i+j:Nat):Int) from rfl) ⟨by omega,by omega⟩<|cK U U io c<|aC U go U (by simp[cI,fS,cB,ic])<|rB U ⟨by omega,by omega⟩<|ak U<|rB U ⟨by omega,by omega⟩<|aC U (bc p.c3.2 rfl) (kl (l.below (φ _))) (km (κ.cH l))<|ak U<|aY U U<|y <| λh1 n1 x1=>wB U U z ⟨by omega,by omega⟩<|sG U U ⟨by omega,by omega⟩<|ak U<|sG U U ⟨by omega,by omega⟩<|ak U<|bU (⟨⟨ω (by simp[Nat.testBit]),trivial⟩,⟨bH go (go' x1),trivial⟩,trivial⟩) ?_;have A:(m:Int)+(d*bd:Nat)+(carry:Int)=((m+d*bd+carry:Nat):Int):=by omega
 rw[A];generalize J:m+d*bd+carry=x at*;have g:Ls h0 n0 h1 n1 b3 bo vb (a.length+b.length+1) out:=⟨p.ext.trans x1,p.c3.ext x1,p.co.ext x1,p.lo,p.zy,p.len⟩;have B:aF h1 n1 .u32 (.sl bo 0 (a.length+b.length+1) (a.length+b.length+1)) out:=g.co.oJ g.len;refine ε<|γ U<|γ U<|γ U<|gT U U (show(i:Int)+(j:Int)=((i+j:Nat):Int) from rfl) ⟨by omega,by omega⟩<|γ U<|D8 (b:=1000000000) U U (by omega)<|kS U ⟨by omega,by omega⟩<|aB U U B c<|aH U U g.co.2 (uy c _ (by simp[V.off])) <| λh2 D b2=>δ ?_;refine aA<|γ U<|A4 (b:=1000000000) U U (by omega) ⟨by omega,by omega⟩<|γ U<|δ ?_;exact k h2 _ _ ⟨g.ext.ab b2 p.lo,g.c3.ab b2 p.zy,⟨g.co.1,D⟩,p.lo,p.zy,by rw[gZ];exact p.len⟩ (ρ.rf U)
def aiv(r:Cd C)(s:a.length<1000)(t:b.length<1000)(o:Sm Bg a)(hb:Sm Bg b)(ib:aF h0 n0 .u32 vb b){i:Nat}(hi:i<a.length)(V0:Nat){Q1:Ex->Env->Hf->K->Prop}
 (w:∀out h' n' E',Ls h0 n0 h' n' b3 bo vb (a.length+b.length+1) out->Sm Bg out->val Bg out=V0+a[i]*val Bg b*Bg ^ i->(∀k,i+1+b.length<=k->out.getD k 0=0)->ρ (Em b3 bo x4 va (a.length+b.length+1) a.length b.length i a[i] []) E'->Q1 .normal E' h' n'):
 ∀(m j:Nat) (out:List Nat) (carry:Nat) (h:Hf) (n:K),b.length - j=m->j<=b.length->Ls h0 n0 h n b3 bo vb (a.length+b.length+1) out->Sm Bg out->carry<Bg->val Bg out+carry*Bg ^ (i+j)=V0+a[i]*val Bg (b.take j)*Bg ^ i->(∀k,i+b.length<=k->out.getD k 0=0)->WC C PD (Em b3 bo x4 va (a.length+b.length+1) a.length b.length i a[i] [(k8,.i .u64 (carry:Nat)),(VW,iN j)]) h n (blk 2 Q1):=by
 intro m
 induction m with
 | zero=>
  intro j out carry h n hm hj p hs d hv l;have x:j=b.length:=by omega
  subst x;rw[eN]at hv;refine ax ?_;refine ε<|ay U U<|δ ?_;refine θ<|ah U (by simp<;>omega)<|Ω<|θ<|aj ?_;have u:=l (i+b.length) (by omega);have y:b.getD b.length 0=0:=by simp
  have e:i+b.length<out.length:=by rw[p.len];omega
  refine χ (Sw r s t o hb ib hi p hs d (φ _) ?_) (ρ.rf U);intro h1 n1 E1 f s1;simp only[u,y,jx,eW,tZ d]at f;refine bS s1 ?_;refine aA<|aX U U ⟨by omega,by omega⟩<|γ U<|δ ?_;refine ax ?_;refine ε<|ay U U<|δ ?_;refine θ<|ae U (by simp)<|aJ ?_;have vs:=EE (B:=Bg) out e carry;have z:out[i+b.length]=0:=by rw[←gW e];exact u
  rw[z,jx,hJ,cT (Bg ^ (i+b.length))]at vs;refine w _ h1 n1 _ f (hs.set d) (by rw[vs];exact hv) (λk v=>?_) (ρ.rf U);rw[uJ,Θ (by omega)];exact l k (by omega)
 | succ m ih=>
  intro j out carry h n hm hj p hs d hv l;have J:j<b.length:=by omega
  have e:i+j<out.length:=by rw[p.len];omega
  refine ax ?_;refine ε<|ay U U<|δ ?_;refine θ<|ah U (by simp<;>omega)<|Ω<|θ<|aj ?_;refine χ (Sw r s t o hb ib hi p hs d hj ?_) (ρ.rf U);intro h1 n1 E1 f s1;refine bS s1 ?_;have A:out[i+j]<Bg:=hs.get e;have D:a[i]<Bg:=o.get hi;have E:b.getD j 0<Bg:=hb.getD (by decide) j;have F:=d;simp only[Bg]at A D E F;have G:=rI (B:=Bg) b j;rw[gW e]at f s1 ⊢;have vs:=EE (B:=Bg) out e ((out[i+j]+a[i]*b.getD j 0+carry) % Bg);generalize L:out[i+j]=g at*;generalize M:a[i]=c at*;generalize N:b.getD j 0=bd at*;have hmul:c*bd<=999999999*999999999:=ua (by omega) (by omega);refine aA<|aX U U ⟨by omega,by omega⟩<|γ U<|δ ?_;have H:(g+c*bd+carry) / Bg<Bg:=by show _ / 1000000000<1000000000;omega
  refine χ (ih (j+1) _ _ h1 n1 (by omega) (by omega) f (hs.set (j4 _ (by decide))) H ?_ (λk v=>?_)) (ρ.rf U)
  ·have O:=tY (g+c*bd+carry) Bg;generalize (g+c*bd+carry) / Bg=q at*;generalize (g+c*bd+carry) % Bg=rx at*;rw[G];have P:Bg ^ (i+j)*g+Bg ^ (i+j)*(c*bd)+Bg ^ (i+j)*carry=Bg ^ (i+j)*rx+Bg ^ (i+j)*(Bg*q):=by
    rw[←eV,←eV,←eV];congr 1;omega
   have R:q*Bg ^ (i+(j+1))=Bg ^ (i+j)*(Bg*q):=by rw[←j3,fy,cT,gn]
   have I:c*(val Bg (List.take j b)+Bg ^ j*bd)*Bg ^ i=c*val Bg (List.take j b)*Bg ^ i+Bg ^ (i+j)*(c*bd):=by rw[eV,fM];congr 1;rw[Nat.pow_add];simp only[cT,Nat.mul_left_comm,gn]
   have S:carry*Bg ^ (i+j)=Bg ^ (i+j)*carry:=cT _ _;rw[I];omega
  ·rw[uJ,Θ (by omega)];exact l k v
def aiw(f:Cd C)(g:a.length<1000)(j:b.length<1000)(l:Sm Bg a)(hb:Sm Bg b)(o:aF h0 n0 .u32 va a)(ib:aF h0 n0 .u32 vb b){Q1:Ex->Env->Hf->K->Prop}
 (q:∀out h' n' E',Ls h0 n0 h' n' b3 bo vb (a.length+b.length+1) out->Sm Bg out->val Bg out=val Bg a*val Bg b->ρ [(k4,x4),(k5,.sl bo 0 (a.length+b.length+1) (a.length+b.length+1))] E'->Q1 .normal E' h' n'):
 ∀(m i:Nat) (out:List Nat) (h:Hf) (n:K),a.length - i=m->i<=a.length->Ls h0 n0 h n b3 bo vb (a.length+b.length+1) out->Sm Bg out->val Bg out=val Bg (a.take i)*val Bg b->(∀k,i+b.length<=k->out.getD k 0=0)->WC C PA [(k3,.p b3 0),(k4,x4),(k5,.sl bo 0 (a.length+b.length+1) (a.length+b.length+1)),(FX,va),(VT,iN a.length),(LX,iN i)] h n (blk 0 Q1):=by
 intro m
 induction m with
 | zero=>
  intro i out h n hm hi p hs hv d;have ei:i=a.length:=by omega
  subst ei;rw[eN]at hv;refine ax ?_;refine ε<|ay U U<|δ ?_;exact θ<|ae U (by simp)<|aJ (q out h _ _ p hs hv (ρ.rf U))
 | succ m ih=>
  intro i out h n hm hi p hs hv d;have c:i<a.length:=by omega
  have e:=o.at_ p.ext;have r:=ib.at_ p.ext;refine ax ?_;refine ε<|ay U U<|δ ?_;refine θ<|ah U (by simp<;>omega)<|Ω ?_;refine θ<|aj<|ε<|γ U<|aB U U e c<|ξ U (e.get c _)<|γ U<|γ U<|δ ?_;refine ε<|γ U<|δ ?_;refine ε<|σ U<|ξ U (p.c3.ld U _)<|al U r<|aX U U ⟨by omega,by omega⟩<|γ U<|δ ?_;refine aj<|χ (aiv f g j l hb ib c (val Bg out) ?_ _ 0 out 0 h n rfl (by omega) p hs (by decide) (by simp[val]) d) (ρ.rf U);intro s h1 n1 E1 t u v1 v s1;refine bS s1 ?_;refine aA<|aX U U ⟨by omega,by omega⟩<|γ U<|δ ?_;refine χ (ih (i+1) s h1 n1 (by omega) (by omega) t u ?_ v) (ρ.rf U);rw[v1,hv,rI,gW c,fM];congr 1;simp only[cT,Nat.mul_left_comm,gn]
end
def Kg(i:Cd C){va vb:V}{a b:List Nat}(A:a.length<1000)(B:b.length<1000)(D:Sm Bg a)(hb:Sm Bg b)(r:aF h n .u32 va a)(ib:aF h n .u32 vb b)
 (E:∀v' l' h' n',Ext h n h' n'->aF h' n' .u32 v' l'->dC Bg l'->val Bg l'=val Bg a*val Bg b->(v'=.ns\/n.num<=v'.blk.num)->Q (.a [v']) h' n'):ν C (.f 321 [] []) [.a [va],.a [vb]] h n Q:=by
 refine ν.go i.f321 U ?_;refine ε<|cR U U (en r.one) <| λh1 n1 W F G=>cR U U (en ib.one) <| λh2 j X H s=>bA <| λe c Y I l=>δ ?_;have x3:=(G.trans s).trans l;have c2:Cl e c n [va] 297:=Cl.ext (Cl.ext ⟨by omega,F⟩ s) l;have c3:Cl e c n1 [vb] 297:=Cl.ext ⟨by omega,H⟩ l;have c4:Cl e c j [.ns] 297:=⟨by omega,I⟩;have m:=r.ext x3;have t:=ib.ext x3;refine ε<|σ U<|ξ U (c2.ld U _)<|al U m<|σ U<|ξ U (c3.ld U _)<|al U t<|gT U U (show(a.length:Int)+(b.length:Int)=((a.length+b.length:Nat):Int) from rfl) ⟨by omega,by omega⟩<|gT U U (show((a.length+b.length:Nat):Int)+1=((a.length+b.length+1:Nat):Int) from rfl) ⟨by omega,by omega⟩<|pA U U (by omega) (by omega) <| λu v Z w o=>γ U<|δ ?_;rw[wA]at w;have p:Ls e c u v n1 c vb (a.length+b.length+1) (List.replicate (a.length+b.length+1) 0):=⟨o,c3.ext o,⟨by omega,w⟩,φ _,by omega,by simp⟩;refine θ<|ε<|σ U<|ξ U ((c2.ext o).ld U _)<|al U m<|γ U<|δ ?_;refine aj<|χ (aiw (x4:=.p j 0) i A B D hb m t ?_ _ 0 _ u v rfl (by omega) p (Sm.rep (by decide) _) (by rw[Rq];simp[val]) (λk _=>by simp[dH,List.getElem?_replicate];split<;>rfl)) (ρ.rf U);intro out J L E5 d M N O;refine bS O ?_;have io:aF J L .u32 (.sl c 0 (a.length+b.length+1) (a.length+b.length+1)) out:=d.co.oJ d.len;have P:=c4.ext d.ext;refine ε<|γ U<|ψ U U<|uM i (φ _) io (by have:=d.len;omega) <| λR h7 x q g y oW=>ji (mW rfl g.cells g.one)<|aH U U ((P.ext q).2) (cj rfl rfl (en g.one)) <| λz S b8=>δ ?_;have T:Ext h n z x:=((x3.trans d.ext).trans q).ab b8 (by omega);refine Γ ⟨_,jE rfl (bc S rfl),?_⟩;exact E R (cG out) z x T ((g.up q.1).ab b8 (Or.inr (by rw[y];show c.num≠j.num;omega))) (pB M) (by rw[nU,N]) (Or.inr (by rw[y];show n.num<=c.num;omega))
end
section
variable {C:Nat->Option aI}{h:Hf}{n:K}{Q:V->Hf->K->Prop}
def aix{x A d:Nat}(B:Nat)(a:0<d):(x+B*(A % d)) / d+B*(A / d)=(x+B*A) / d:=by
 have h:=tY A d;have e:x+B*A=(x+B*(A % d))+d*(B*(A / d)):=by rw[Nat.mul_left_comm d,j3,←eV,nF (A % d),h]
 rw[e,Nat.add_mul_div_left _ _ a]
structure Sh(h0:Hf)(n0:K)(h:Hf)(n:K)(b3 b4 b5 b6 b7 bo:K)(d L:Nat)(out:List Nat)(rest:Nat):Prop where
 ext:Ext h0 n0 h n
 c3:Cl h n b3 [.i .u32 (d:Nat)] 342
 c4:Cl h n b4 [.ns] 297
 c5:Cl h n b5 [.ns] 297
 c6:Cl h n b6 [.sl bo 0 L L] 295
 c7:Cl h n b7 [.i .u64 (rest:Nat)] 349
 co:Cl h n bo (nC .u32 out) 342
 len:out.length=L
structure Shn(n0 b3 b4 b5 b6 b7 bo:K):Prop where
 l3:n0.num<=b3.num
 l4:b3.num<b4.num
 l5:b4.num<b5.num
 lo:b5.num<bo.num
 l6:bo.num<b6.num
 l7:b6.num<b7.num
def Sh.on{h0:Hf}{n0:K}{h h':Hf}{n n' b3 b4 b5 b6 b7 bo:K}{d L:Nat}{out:List Nat}{rest:Nat}(s:Sh h0 n0 h n b3 b4 b5 b6 b7 bo d L out rest)(e:Ext h n h' n'):Sh h0 n0 h' n' b3 b4 b5 b6 b7 bo d L out rest:=
 ⟨s.ext.trans e,s.c3.ext e,s.c4.ext e,s.c5.ext e,s.c6.ext e,s.c7.ext e,s.co.ext e,s.len⟩
def Sh.ab{h0:Hf}{n0:K}{h h':Hf}{n b3 b4 b5 b6 b7 bo b:K}{d L:Nat}{out:List Nat}{rest:Nat}(s:Sh h0 n0 h n b3 b4 b5 b6 b7 bo d L out rest)(o:Shn n0 b3 b4 b5 b6 b7 bo)(hb:b7.num<b.num)(e:bm b h h'):Sh h0 n0 h' n b3 b4 b5 b6 b7 bo d L out rest:=by obtain⟨l3,l4,l5,lo,l6,l7⟩:=o;exact⟨s.ext.ab e (by omega),s.c3.ab e (by omega),s.c4.ab e (by omega),s.c5.ab e (by omega),s.c6.ab e (by omega),s.c7.ab e (by omega),s.co.ab e (by omega),s.len⟩
def Sx(S:Cd C){va:V}{a:List Nat}{d:Nat}(eJ:a.length<1000)(ha:Sm Bg a)(oe:0<d)(hd:d<Bg)(ia:aF h n .u32 va a)
 (hQ:∀v1 q T r h' n',Ext h n h' n'->aF h' n' .u32 v1 q->dC Bg q->val Bg q=val Bg a / d->aF h' n' .u32 T r->dC Bg r->val Bg r=val Bg a % d->(v1=.ns\/n.num<=v1.blk.num)->(T=.ns\/n.num<=T.blk.num)->Q (.u [.a [v1],.a [T]]) h' n'):ν C (.f 329 [] []) [.a [va],.i .u32 (d:Nat)] h n Q:=by
 have zd:=hd;simp only[Bg]at zd;refine ν.go S.f329 U ?_;refine ε<|cR U U (en ia.one) <| λh1 n1 cA a1 e1=>cR U U U <| λh2 E dS a2 e2=>bA <| λh3 J gJ a3 e3=>bA <| λL b jZ a4 W=>δ ?_;have x4:=((e1.trans e2).trans e3).trans W;have c2:Cl L b n [va] 297:=Cl.ext (Cl.ext (Cl.ext ⟨by omega,a1⟩ e2) e3) W;have c3:Cl L b n1 [.i .u32 (d:Nat)] 342:=Cl.ext (Cl.ext ⟨by omega,a2⟩ e3) W;have c4:Cl L b E [.ns] 297:=Cl.ext ⟨by omega,a3⟩ W;have c5:Cl L b J [.ns] 297:=⟨by omega,a4⟩;have C1:=ia.ext x4;refine ε<|σ U<|ξ U (c2.ld U _)<|al U C1<|pA U U (by omega) (by omega) <| λh5 X oi a5 e5=>bA <| λh6 o jl a6 Y=>aH U U a6 U <| λh7 a7 b7=>δ ?_;rw[wA]at a5;have x7:Ext L b h7 o:=(e5.trans Y).ab b7 (by omega);have co:Cl h7 o b (nC .u32 (List.replicate a.length 0)) 342:=Cl.ab (n:=o) (Cl.ext ⟨by omega,a5⟩ Y) b7 (by omega);refine ε<|bA <| λh8 n8 sY a8 e8=>aH U U a8 U <| λh9 a9 b9=>δ ?_;have Wq:Ext h7 o h9 n8:=e8.ab b9 (φ _);have F:=x7.trans Wq;have c69:Cl h9 n8 X [.sl b 0 a.length a.length] 295:=Cl.ext ⟨by omega,a7⟩ Wq;have ord:Shn n n1 E J X o b:=⟨by omega,by omega,by omega,by omega,by omega,by omega⟩;have s9:Sh h n h9 n8 n1 E J X o b d a.length (List.replicate a.length 0) 0:=⟨x4.trans F,c3.ext F,c4.ext F,c5.ext F,c69,⟨by omega,a9⟩,co.ext Wq,by simp⟩;have ia9:=C1.ext F;refine θ<|ε<|σ U<|ξ U ((c2.ext F).ld U _)<|ψ U U<|Kc S ia9 (by omega) ?_;intro M e gP N fI oE je dY it;refine δ ?_;have s10:=s9.on fI;have arw:=ia9.ext fI;have BE:=s10.ext;have y10:=fI.1;let I:Nat->Hf->K->Prop:=λj h' n'=>(M.num<n'.num/\h' M=some (.c [va] e 0))/\∃out rest,Sh h n h' n' n1 E J X o b d a.length out rest/\Sm Bg out/\rest=val Bg (a.drop (a.length - j)) % d/\val Bg (out.drop (a.length - j))=val Bg (a.drop (a.length - j)) / d;refine aj<|sJ U it I (λ_ _ _=>False) ?_ ?_ ?_ ?_ ?_ ?_ ?_ ?_
 ·rintro j h1 n1 h' n' ⟨⟨m,G⟩,out,rest,A,D,k,t⟩ ex;exact⟨⟨ep m ex.1,by rw[ex.2 _ m];exact G⟩,out,rest,A.on ex,D,k,t⟩
 ·rintro j h1 n1 h' ⟨⟨m,G⟩,out,rest,A,D,k,t⟩ O;exact⟨⟨m,by rw[O _ (by omega)];exact G⟩,out,rest,A.ab ord (by omega) O,D,k,t⟩
 ·rintro j h1 n1 ⟨m,out,rest,A,_⟩;exact⟨m.1,m.2,ia.ext A.ext⟩
 ·intro j hj;rw[sQ];rfl
 ·intro h' O;have Mp:N.succ.num=N.num+1:=K.eF N;refine⟨⟨by omega,by rw[O _ (by omega)];exact oE⟩,_,0,(s10.ab ord (by omega) O).on ⟨by omega,λ_ _=>rfl⟩,Sm.rep (by decide) _,?_,?_⟩
  ·rw[mF,jw];simp[val]
  ·rw[mF,jw,oo (by simp)];simp[val]
 ·rintro j hj fX oM E1 EX ⟨⟨m,G⟩,out,rest,A,D,k,t⟩ fH;have bV:j<a.length:=by rw[qs]at hj;exact hj
  rw[sQ]at fH;simp only[jB,lK]at fH;subst fH;have hi:a.length - 1 - j<a.length:=by omega
  rw[show a.length - j=(a.length - 1 - j)+1 by omega]at k t;have qo:a.length - (j+1)=a.length - 1 - j:=by omega
  generalize a.length - 1 - j=i at*;rw[gW hi];refine ε<|γ U<|δ<|aA<|γ U<|δ ⟨rfl,rfl,λgk b12=>?_⟩;have g:=A.ab ord (by omega) b12;have dO:i<out.length:=by rw[g.len];exact hi
  have q1:a[i]<Bg:=ha.get hi;have hr:rest<d:=by rw[k];exact j4 _ oe
  have hx:rest*1000000000+a[i]<d*Bg:=by
   have:rest*Bg+Bg<=d*Bg:=by rw[←rX];exact fJ _ hr
   simp only[Bg]at this q1 ⊢;omega
  have Wr:(rest*1000000000+a[i]) / d<1000000000:=Nat.div_lt_of_lt_mul hx;have hxb:d*Bg<=1000000000*1000000000:=ua (by omega) (φ _);have vd:=wE (B:=Bg) a hi;have vo:=wE (B:=Bg) (out.set i ((rest*1000000000+a[i]) / d)) (i:=i) (by rw[gZ];exact dO);rw[vM,Su]at vo;simp only[Bg]at q1;have tI:rest*1000000000+a[i]=a[i]+Bg*rest:=by simp only[Bg];omega
  have Y:val Bg (a.drop i) % d=(rest*1000000000+a[i]) % d:=by rw[vd,tI,k,←Je]
  have e7:val Bg ((out.set i ((rest*1000000000+a[i]) / d)).drop i)=val Bg (a.drop i) / d:=by rw[vo,t,vd,tI,k];exact aix Bg oe
  generalize hxx:rest*1000000000+a[i]=x at*;have zB:(0:Int)<=((x / d:Nat):Int):=pL _;have EY:((x / d:Nat):Int)<=18446744073709551615:=by generalize x / d=y at Wr ⊢;omega
  have aiB:((x / d:Nat):Int)<=4294967295:=by generalize x / d=y at Wr ⊢;omega
  refine aj<|ε<|ξ U (g.c7.ld U _)<|uz U U ((show(rest:Int)*1000000000=((rest*1000000000:Nat):Int) by omega)) ⟨by omega,by omega⟩<|γ U<|kS U ⟨by omega,by omega⟩<|gT U U ((show((rest*1000000000:Nat):Int)+(a[i]:Nat)=(x:Nat) by omega)) ⟨by omega,by omega⟩<|γ U<|δ ?_;have io:aF gk oM .u32 (.sl b 0 a.length a.length) out:=g.co.oJ g.len;have be:bk oM (.sl b 0 a.length a.length)=true:=io.below (φ _);refine cX<|aC U (g.c6.ld U _) be (κ.cH io)<|ak U<|ak U<|aC U (g.c3.ld U _) U (ff _ _)<|rB U ⟨by omega,by omega⟩<|Pb U U oe (⟨zB,EY⟩)<|rB U (⟨zB,aiB⟩)<|cK U U io dO<|eT U U g.co.2 (uy dO _ (by simp[V.off])) <| λmY Jy cN=>bU (⟨⟨ω (by simp[Nat.testBit]),trivial⟩,⟨ω (by simp[Nat.testBit]),trivial⟩,trivial⟩) ?_;obtain⟨l3,l4,l5,lo,l6,l7⟩:=ord;have arx:=g.c7.1;have v:bm b gk mY:=cN;have Sy:=g.c3.ab v (by omega);have Sz:=g.c7.ab v (by omega);refine aA<|γ U<|ξ U (Sy.ld U _)<|kS U ⟨by omega,by omega⟩<|D8 U U oe<|aH U U Sz.2 U <| λtt C4 sC=>δ ?_;have w:bm o mY tt:=sC;refine⟨EX,(w N (by omega)).trans (v N (by omega)),⟨m,(w M (by omega)).trans ((v M (by omega)).trans ((b12 M (by omega)).trans G))⟩,_,_,⟨(g.ext.ab v (by omega)).ab w (by omega),Sy.ab w (by omega),(g.c4.ab v (by omega)).ab w (by omega),(g.c5.ab v (by omega)).ab w (by omega),(g.c6.ab v (by omega)).ab w (by omega),⟨Sz.1,C4⟩,Cl.ab ⟨g.co.1,Jy⟩ w (by omega),by rw[gZ];exact g.len⟩,D.set Wr,by rw[qo];exact Y.symm,by rw[qo];exact e7⟩
 ·rintro h' n' EX ⟨⟨m,G⟩,out,rest,s,D,k,t⟩;rw[qs,lL,gb]at k;rw[qs,lL,gb,gb]at t;have io:aF h' n' .u32 (.sl b 0 a.length a.length) out:=s.co.oJ s.len;have be:bk n' (.sl b 0 a.length a.length)=true:=io.below (φ _);have hr:rest<d:=by rw[k];exact j4 _ oe
  have l7:∀{H:Hf},Ag n' h' H->bj H false 1 (.p o 0)=some (.i .u64 (rest:Nat)):=λag=>(s.c7.ext (ag.x (φ _))).ld U _;have qI:=s.len;refine cX<|aC U (s.c6.ld U _) be (κ.cH io)<|aY U U<|uM S (φ _) io (by omega) <| λv1 lB Z z Mr Gf r1'=>qi (mW rfl Mr.cells Mr.one)<|aC U (l7 z.ag) U (ff _ _)<|rB U ⟨by omega,by omega⟩<|lP U <| λoF n2' ary Ws P=>aY U U<|uM S (l:=[rest]) (φ _) (κ.whole (len:=1) (by omega) Ws rfl) (by simp) <| λv3 JB CY R Ms q3' r3'=>qi (mW rfl Ms.cells Ms.one)<|eT U U (((s.c4.ext ((z.trans P).trans R))).2) (cj rfl rfl (en Mr.one)) <| λMg a4' oX=>eT U U ((Cl.ab (n:=CY) (s.c5.ext ((z.trans P).trans R)) oX (by omega)).2) (cj rfl rfl (en Ms.one)) <| λFO BW oj=>bU (⟨⟨ω (by simp[Nat.testBit]),ω (by simp[Nat.testBit]),ω (by simp[Nat.testBit]),bH (l7 ((Ag.refl _ _).hp Z none z.1)) (l7 (z.ag.hp Z none z.1)),trivial⟩,⟨ω (by simp[Nat.testBit]),ω (by simp[Nat.testBit]),ω (by simp[Nat.testBit]),ω (by simp[Nat.testBit]),trivial⟩,trivial⟩) ?_;have x3':=(z.trans P).trans R;have wW:bm J Mg FO:=oj;have BX:bm E JB Mg:=oX;have jg:Sm Bg [rest]:=Sm.cons (by simp only[Bg];omega) Sm.nil;refine Γ ⟨_,A2 rfl (bc (l':=[v1]) ((wW E (by omega)).trans a4') U) U (bc BW rfl),?_⟩;have wc:=s.c4.1;have C6:=s.c5.1;have Mt:=s.co.1;have z1:=z.1;have z2:=P.1;have z3:=R.1;have z0:=s.ext.1;refine hQ v1 (cG out) v3 (cG [rest]) FO CY (((s.ext.trans x3').ab BX (by omega)).ab wW (by omega)) ?_ (pB D) (by rw[nU,t]) ?_ (pB jg) (by rw[nU];simp only[val];omega) (Or.inr (by rw[Gf];show n.num<=b.num;omega)) (Or.inr (by rw[q3'];show n.num<=Z.num;omega))
  ·have k1:v1.blk.num=b.num:=by rw[Gf];rfl
   exact((((Mr.up z1).ext (P.trans R))).ab BX (Or.inr (by omega))).ab wW (Or.inr (by omega))
  ·have k3:v3.blk.num=Z.num:=by rw[q3'];rfl
   exact(((Ms.up (by omega)).ext (Ext.refl _ _)).ab BX (Or.inr (by omega))).ab wW (Or.inr (by omega))
 ·rintro ex h' n' oF EX hf;exact hf.elim
end
section
variable {C:Nat->Option aI}{h:Hf}{n:K}{Q:V->Hf->K->Prop}
abbrev Es(b8 b9 iy jY b12 cN:K)(i:Nat)(r:Env):Env:=
 (k8,.p b8 0)::(k9,.p b9 0)::(qg,.p iy 0)::(qh,.p jY 0)::(rS,.p b12 0)::(uY,.p cN 0)::(A0,iN i)::r
section
variable {h0:Hf}{n0 b8 b9 iy jY b12 cN:K}{i:Nat}{vr:V}{r:List Nat}{size top next head R bb P:Nat}
def aiD(F:Cd C)(G:Cl h0 n0 b9 [iN size] 3)(L:Cl h0 n0 iy [.i .u64 (top:Nat)] 349)(H:Cl h0 n0 jY [.i .u64 (next:Nat)] 349)(jv:Cl h0 n0 cN [vr] 297)(ir:aF h0 n0 .u32 vr r)
 (s:Sm Bg r)(Y:r.length<1000)(h2:2<=size)(Z:size<1000)(d:Dg Bg R bb head (r.getD (size - 2) 0) top next P)(hp:P*Bg<=bb)(kg:top<Bg){Q1:Ex->Env->Hf->K->Prop}
 (g:∀b h' n' E',Ext h0 n0 h' n'->b*bb<R+bb->R / bb<=b->b<Bg->ρ (Es b8 b9 iy jY b12 cN i [(CF,.i .u64 (b:Nat))]) E'->Q1 .normal E' h' n'):
 ∀(b left:Nat) (h:Hf) (n:K),Ext h0 n0 h n->b*top+left=head->R / bb<=b->b<=Bg+1->left<Bg->WC C Ic (Es b8 b9 iy jY b12 cN i [(CF,.i .u64 (b:Nat)),(FV,.i .u64 (left:Nat))]) h n (blk 2 Q1):=by
 have I:=s.getD (by decide) (size - 2);have t:=d.pC;have main:∀(m b left:Nat) (h:Hf) (n:K),b=m->Ext h0 n0 h n->b*top+left=head->R / bb<=b->b<=Bg+1->left<Bg->WC C Ic (Es b8 b9 iy jY b12 cN i [(CF,.i .u64 (b:Nat)),(FV,.i .u64 (left:Nat))]) h n (blk 2 Q1):=by
  intro m
  induction m with
  | zero=>
   intro b left h n hm e o p j hl;subst hm;have u:=G.ext e;have k:=H.ext e;have v:=jv.ext e;have l:=ir.ext e;have C9:=hl;simp only[Bg]at I j hl t;have w:∀{Q:V->Hf->K->Prop},(∀h' n',Ext h n h' n'->Q (.i .u64 (r.getD (size - 2) 0:Nat)) h' n')->ν C (.f 331 [] []) [.a [vr],.i .i64 ((size - 2:Nat):Nat)] h n Q:=λg=>yK F l s (by omega) g;refine ax ?_;generalize kA:r.getD (size - 2) 0=l2 at*;refine θ<|cX<|ak U<|yo U U<|ak U<|aR U (by simp)<|ak U<|aR U (by simp)<|aC U (k.ld U _) U (ff _ _)<|aR U (by simp)<|wB U U ((show((0:Nat):Int)*(next:Int)=((0:Nat):Int) by omega)) ⟨by omega,by omega⟩<|aR U (by simp)<|ak U<|aR U (by simp)<|wB U U ((show(left:Int)*1000000000=((left*1000000000:Nat):Int) by omega)) ⟨by omega,by omega⟩<|aR U (by simp)<|aC U (bc v.2 rfl) (kl (l.below (φ _))) (km (κ.cH l))<|aR U (by simp)<|aC U (u.ld U _) U (ff _ _)<|aR U (by simp)<|yu U U ((show(size:Int) - 2=((size - 2:Nat):Int) by omega)) ⟨by omega,by omega⟩<|aR U (by simp)<|aY U U<|w <| λh1 n1 c=>aR U (by simp)<|sG U U ⟨by omega,by omega⟩<|aR U (by simp)<|sH U U<|pz U (by simp) U<|bU (⟨⟨ω (by simp[Nat.testBit]),trivial⟩,⟨ω (by simp[Nat.testBit]),trivial⟩,⟨bH (k.ld U _) ((k.ext c).ld U _),trivial⟩,trivial⟩) ?_;refine ae U (by simp<;>omega)<|aJ ?_;exact g 0 h1 n1 _ (e.trans c) (d.done o (by simp only[Bg];omega) (by omega) hp) p (by simp only[Bg];omega) (ρ.rf U)
  | succ m ih=>
   intro b left h n hm e o p j hl;have u:=G.ext e;have M:=L.ext e;have k:=H.ext e;have v:=jv.ext e;have l:=ir.ext e;have w:∀{Q:V->Hf->K->Prop},(∀h' n',Ext h n h' n'->Q (.i .u64 (r.getD (size - 2) 0:Nat)) h' n')->ν C (.f 331 [] []) [.a [vr],.i .i64 ((size - 2:Nat):Nat)] h n Q:=λg=>yK F l s (by omega) g;have hmul:b*next<=1000000001*1000000000:=ua (by simp only[Bg]at j;omega) (by simp only[Bg]at t;omega);have N:(b:Int)*(next:Int)=((b*next:Nat):Int):=by simp
   generalize kA:r.getD (size - 2) 0=l2 at*;have go:∀(h1:Hf) (n1:K) (E:Env),Ext h n h1 n1->(Bg<=b\/left*Bg+l2<b*next)->ρ (Es b8 b9 iy jY b12 cN i [(CF,.i .u64 (b:Nat)),(FV,.i .u64 (left:Nat))]) E->WC C abx E h1 n1 (sq C (.loop Pz) (blk 2 Q1)):=by
    intro h1 n1 E c q O;refine bS O ?_;obtain⟨g1,g2⟩:=d.down o p q;have x:(b - 1)*top+(left+top)=head:=by
     have:b*top=(b - 1)*top+top:=by rw[←rX];congr 1;omega
     omega
    have y:=j;have z:=hl;have S:=kg;simp only[Bg]at y z S;refine aj<|ε<|γ U<|jR U U ((show(b:Int) - 1=((b - 1:Nat):Int) by omega)) ⟨by omega,by omega⟩<|γ U<|δ ?_;refine ε<|γ U<|ξ U ((M.ext c).ld U _)<|gT U U ((show(left:Int)+(top:Int)=((left+top:Nat):Int) by omega)) ⟨by omega,by omega⟩<|γ U<|δ ?_;refine ε<|γ U<|dj U U<|δ ?_;by_cases hb:Bg<=left+top
    ·have A:=hb;simp only[Bg]at A;refine ah U (by simp<;>omega)<|aJ ?_;obtain⟨J,T⟩:=d.brk x hb;exact g (b - 1) h1 n1 _ (e.trans c) (d.done x J T hp) g1 J (ρ.rf U)
    ·have A:=hb;simp only[Bg]at A;refine ae U (by simp<;>omega)<|Ω ?_;exact χ (ih (b - 1) (left+top) h1 n1 (by omega) (e.trans c) x g1 (by omega) (by omega)) (ρ.rf U)
   have W:=I;have y:=j;have z:=hl;have X:=t;simp only[Bg]at W y z X;refine ax ?_;by_cases hB:Bg<=b
   ·have B:=hB;simp only[Bg]at B;refine θ<|cX<|ak U<|yo U U<|ak U<|dN U (by simp<;>omega)<|dN U (by simp<;>omega)<|dN U (by simp<;>omega)<|dN U (by simp<;>omega)<|dN U (by simp<;>omega)<|dN U (by simp<;>omega)<|dN U (by simp<;>omega)<|dN U (by simp<;>omega)<|dN U (by simp<;>omega)<|dN U (by simp<;>omega)<|dN U (by simp<;>omega)<|yp U (by simp<;>omega) U<|bU (by simp[AG,jD,mn,Nat.testBit]) ?_;exact ah U U<|Ω<|go h n _ (Ext.refl _ _) (Or.inl hB) (ρ.rf U)
   ·have B:=hB;simp only[Bg]at B;refine θ<|cX<|ak U<|yo U U<|ak U<|aR U (by simp<;>omega)<|ak U<|aR U (by simp<;>omega)<|aC U (k.ld U _) U (ff _ _)<|aR U (by simp<;>omega)<|wB U U N ⟨by omega,by omega⟩<|aR U (by simp<;>omega)<|ak U<|aR U (by simp<;>omega)<|wB U U ((show(left:Int)*1000000000=((left*1000000000:Nat):Int) by omega)) ⟨by omega,by omega⟩<|aR U (by simp<;>omega)<|aC U (bc v.2 rfl) (kl (l.below (φ _))) (km (κ.cH l))<|aR U (by simp<;>omega)<|aC U (u.ld U _) U (ff _ _)<|aR U (by simp<;>omega)<|yu U U ((show(size:Int) - 2=((size - 2:Nat):Int) by omega)) ⟨by omega,by omega⟩<|aR U (by simp<;>omega)<|aY U U<|w <| λh1 n1 c=>aR U (by simp<;>omega)<|sG U U ⟨by omega,by omega⟩<|aR U (by simp<;>omega)<|sH U U<|pz U (by simp<;>omega) U<|bU (⟨⟨ω (by simp[Nat.testBit]),trivial⟩,⟨ω (by simp[Nat.testBit]),trivial⟩,⟨bH (k.ld U _) ((k.ext c).ld U _),trivial⟩,trivial⟩) ?_;by_cases q:left*Bg+l2<b*next
    ·have D:=q;simp only[Bg]at D;exact ah U (by simp<;>omega)<|Ω<|go h1 n1 _ c (Or.inr q) (ρ.rf U)
    ·have D:=q;simp only[Bg]at D;refine ae U (by simp<;>omega)<|aJ ?_;exact g b h1 n1 _ (e.trans c) (d.done o (by omega) (by omega) hp) p (by omega) (ρ.rf U)
 intro b left h n e o p j hl;exact main b b left h n rfl e o p j hl
end
end
section
variable {C:Nat->Option aI}{h:Hf}{n:K}{Q:V->Hf->K->Prop}
structure Dv(h0:Hf)(n0:K)(h:Hf)(n bo b12 cN:K)(L:Nat)(vr:V)(r:List Nat):Prop where
 ext:Ext h0 n0 h n
 mw:Cl h n b12 [.sl bo 0 L L] 295
 jv:Cl h n cN [vr] 297
 co:∃ds:List Nat,ds.length=L/\Cl h n bo (nC .u32 ds) 342
 ir:aF h n .u32 vr r
 B0:dC Bg r
 sep:vr=.ns\/cN.num<vr.blk.num
def Kp(h:Hf)(n:K)(h':Hf)(n' bo cN:K):Prop:=n.num<=n'.num/\∀k:K,k.num<n.num->k.num≠bo.num->k.num≠cN.num->h' k=h k
def Kp.refl(h:Hf)(n bo cN:K):Kp h n h n bo cN:=⟨φ _,λ_ _ _ _=>rfl⟩
def Kp.ext{h h1 h2:Hf}{n n1 c bo cN:K}(a:Kp h n h1 n1 bo cN)(e:Ext h1 n1 h2 c):Kp h n h2 c bo cN:=⟨dU a.1 e.1,λk h1 h2 d=>by rw[e.2 k (ep h1 a.1)];exact a.2 k h1 h2 d⟩
def Kp.ab{h h1 h2:Hf}{n n1 bo cN b:K}(a:Kp h n h1 n1 bo cN)(e:bm b h1 h2)(hb:b.num=bo.num\/b.num=cN.num\/n.num<=b.num):Kp h n h2 n1 bo cN:=⟨a.1,λk h1 h2 c=>by rw[e k (by omega)];exact a.2 k h1 h2 c⟩
def aF.aiG{h:Hf}{n:K}{v:V}{x:Nat}{r:List Nat}(a:κ h n 1 v (1+r.length) ([.i .u32 (x:Nat)]++nC .u32 r)):aF h n .u32 v (x::r):=by show κ h n 1 v (r.length+1) _;rw[nF];exact a
section
variable {h0:Hf}{n0 b8 b9 iy jY b12 cN bo:K}{i L:Nat}{vb:V}{b:List Nat}{size top next:Nat}
def SA(A:Cd C)(B:n0.num<=bo.num)(M:bo.num<b12.num)(N:b12.num<cN.num){hs:Hf}{ns:K}{vr:V}{r p:List Nat}{k:K}{l:V}{g:Nat}(s:Dv h0 n0 h n bo b12 cN L vr r)(m:Kp hs ns h n bo cN)(O:cN.num<ns.num)
 (D:Cl h n k [l] 297)(ip:aF h n .u32 l p)(np:dC Bg p)(E:r.length<1000)(F:p.length<1000)(G:g<Bg)(hle:val Bg p<=val Bg r){Q1:Ex->Env->Hf->K->Prop}
 (o:∀e r' h' n' E',Dv h0 n0 h' n' bo b12 cN L e r'->Kp hs ns h' n' bo cN->(e=.ns\/ns.num<=e.blk.num)->val Bg r'=val Bg r - val Bg p->Q1 .normal E' h' n'):
 WC C aby [(rS,.p b12 0),(uY,.p cN 0),(A0,iN i),(CF,.i .u64 (g:Nat)),(A1,.p k 0)] h n Q1:=by
 have H:=G;simp only[Bg]at H;have P:=s.jv.1;have R:=m.1;refine ε<|ξ U (bc s.jv.2 rfl)<|ξ U (bc D.2 rfl)<|ψ U U<|Sv A E F s.B0.1 np s.ir ip hle <| λv1 r1 h1 n1 a q t u v=>aH U U ((s.jv.ext a).2) (cj rfl rfl (en q.one)) <| λh2 w b2=>δ ?_;have c:bm cN h1 h2:=b2;have mw:=(s.mw.ext a).ab c (by omega);have x2:Ext h0 n0 h2 n1:=(s.ext.trans a).ab c (by omega);have k2:Kp hs ns h2 n1 bo cN:=(m.ext a).ab c (Or.inr (Or.inl U));obtain⟨ds,f,co⟩:=s.co;have j:=(co.ext a).ab c (by omega);have sep:v1=.ns\/cN.num<v1.blk.num:=v.imp id λh=>by omega
 have x:aF h2 n1 .u32 v1 r1:=q.ab c (sep.imp id λh=>by omega);have io:aF h2 n1 .u32 (.sl bo 0 L L) ds:=j.oJ f;have S:=a.1;have y:v1=.ns\/ns.num<=v1.blk.num:=v.imp id λh=>by omega
 refine ε<|γ U<|ξ U (mw.ld U _)<|al U io<|ay U U<|δ ?_;have I:Dv h0 n0 h2 n1 bo b12 cN L v1 r1:=⟨x2,mw,⟨by omega,w⟩,⟨ds,f,j⟩,x,t,sep⟩;by_cases hi:i<ds.length
 ·refine ah U (by simp<;>omega) ?_;refine aA<|ξ U (mw.ld U _)<|γ U<|γ U<|kS U ⟨by omega,by omega⟩<|aB U U io hi<|aH U U j.2 (uy hi _ (by simp[V.off])) <| λz J b3=>δ ?_;have d:bm bo h2 z:=b3;refine o v1 r1 z n1 _ ⟨x2.ab d B,mw.ab d (by omega),Cl.ab (n:=n1) ⟨by omega,w⟩ d (by omega),⟨_,by rw[gZ];exact f,⟨by omega,J⟩⟩,x.ab d (sep.imp id λh=>by omega),t,sep⟩ (k2.ab d (Or.inl U)) y u
 ·exact ae U (by simp<;>omega)<|Ω (o v1 r1 h2 n1 _ I k2 y u)
def aiL(t:Cd C)(ho:n0.num<=bo.num)(Mt:bo.num<b12.num)(qR:b12.num<cN.num)
 (c8:Cl h0 n0 b8 [vb] 297)(ib:aF h0 n0 .u32 vb b)(nb:dC Bg b)(eS:b.length=size)(kR:2<=size)(dK:size<500)(c9:Cl h0 n0 b9 [iN size] 3)(C7:Cl h0 n0 iy [.i .u64 (b.getD (size - 1) 0:Nat)] 349)(oP:Cl h0 n0 jY [.i .u64 (b.getD (size - 2) 0:Nat)] 349)
 (kg:Bg<=2*b.getD (size - 1) 0){vr:V}{r:List Nat}(s:Dv h0 n0 h n bo b12 cN L vr r)(hr:val Bg r<val Bg b){x:Nat}(hx:x<Bg){Q1:Ex->Env->Hf->K->Prop}
 (I:∀A r' h' n' E',Dv h0 n0 h' n' bo b12 cN L A r'->Kp h n h' n' bo cN->(A=.ns\/n.num<=A.blk.num)->val Bg r'=(x+Bg*val Bg r) % val Bg b->Q1 .normal E' h' n'):
 WC C Ib (Es b8 b9 iy jY b12 cN i [(LW,.i .u32 (x:Nat))]) h n Q1:=by
 have gD:r.length<=size:=by rw[←eS];exact nV s.B0.2 nb.1 (by decide) (eu hr)
 have qP:0<val Bg b:=by omega
 have dP:=s.jv.1;have arz:=s.ext.1;have kO:=hx;simp only[Bg]at kO;refine aj<|DP<|ε<|γ U<|eg U <| λh1 n1 cA a1 e1=>σ U<|ξ U ((s.jv.ext e1).ld U _)<|Pn U (κ.whole (len:=1) (by omega) a1 rfl) U ((s.ir.ext e1)) (by omega) (by omega) (by omega) <| λv2 h2 n2 i2 e2 dS dY=>ψ U U<|uM t (φ _) (aF.aiG i2) (by simp<;>omega) <| λm h3 k e3 i3 tJ gJ=>ji (mW rfl i3.cells i3.one)<|aH U U ((((s.jv.ext e1).ext e2).ext e3).2) (cj rfl rfl (en i3.one)) <| λd a4 b4=>δ ?_;have J:bm cN h3 d:=b4;have M:=(e1.trans e2).trans e3;have z13:=M.1;have sR:Sm Bg (x::r):=Sm.cons hx s.B0.1;have o:dC Bg (cG (x::r)):=pB sR;have vR:val Bg (cG (x::r))=x+Bg*val Bg r:=by rw[nU];rfl
 have lR:(cG (x::r)).length<=size+1:=by have:=wN (x::r);simp only[dy]at this;omega
 generalize cG (x::r)=R at*;have hRb:val Bg R<Bg*val Bg b:=by rw[vR];have:Bg*(val Bg r+1)<=Bg*val Bg b:=pa _ hr;rw[eV]at this;omega
 have v3b:m.blk.num=n.num\/m.blk.num=n1.num:=by
  rw[tJ];rcases dY with h | h
  ·exact Or.inl (by rw[h])
  ·exact Or.inr (by rw[h])
 have x4:Ext h0 n0 d k:=(s.ext.trans M).ab J (by omega);have k4':Kp h n d k bo cN:=((Kp.refl h n bo cN).ext M).ab J (Or.inr (Or.inl U));have u:aF d k .u32 m R:=(i3.up e3.1).ab J (Or.inr (by omega));have jv:Cl d k cN [m] 297:=⟨by omega,a4⟩;obtain⟨ds,qU,co⟩:=s.co;have c:Dv h0 n0 d k bo b12 cN L m R:=⟨x4,(s.mw.ext M).ab J (by omega),jv,⟨ds,qU,(co.ext M).ab J (by omega)⟩,u,o,Or.inr (by omega)⟩;clear a1 i2 a4 b4;have l9:∀{h' n'},Ext d k h' n'->bj h' false 1 (.p b9 0)=some (iN size):=λe=>(c9.ext (x4.trans e)).ld U _;have Mu:∀{h' n'},Ext d k h' n'->bj h' true 1 (.p cN 0)=some (.a [m]):=λe=>bc (jv.ext e).2 rfl;have q2:R.getD size 0<Bg:=o.1.getD (by decide) _;have q1:R.getD (size - 1) 0<Bg:=o.1.getD (by decide) _;have dg:=afL (B:=Bg) (by decide) nb.1 eS kR kg o.1 hRb;have hP:=RB (B:=Bg) (by decide) nb.1 eS kR (by simp only[Bg]at kg;omega);have EZ:=dg.first
 have htb:b.getD (size - 1) 0<Bg:=nb.1.getD (by decide) _;have SC:∀{Q:V->Hf->K->Prop},(∀h' n',Ext d k h' n'->Q (.i .u64 (R.getD size 0:Nat)) h' n')->ν C (.f 331 [] []) [.a [m],iN size] d k Q:=λI=>yK t u o.1 (by omega) I;have SD:∀{Q:V->Hf->K->Prop} {h' n'},Ext d k h' n'->(∀xq ma,Ext h' n' xq ma->Q (.i .u64 (R.getD (size - 1) 0:Nat)) xq ma)->ν C (.f 331 [] []) [.a [m],.i .i64 ((size - 1:Nat):Nat)] h' n' Q:=λe I=>yK t (u.ext e) o.1 (by omega) I;have Ki:0<b.getD (size - 1) 0:=by simp only[Bg]at kg;omega
 generalize hh:R.getD size 0*Bg+R.getD (size - 1) 0=head at*;generalize R.getD size 0=r2 at*;generalize R.getD (size - 1) 0=r1 at*;have Wt:=q2;have Gf:=q1;have hh':=hh;have Kj:=EZ.2;simp only[Bg]at Wt Gf hh' Kj;refine cX<|aC U (Mu (Ext.refl _ _)) (kl (u.below (φ _))) (km (κ.cH u))<|aC U (l9 (Ext.refl _ _)) U (ff _ _)<|aY U U<|SC <| λh5 n5 v=>wB U U ((show(r2:Int)*1000000000=((r2*1000000000:Nat):Int) by omega)) ⟨by omega,by omega⟩<|aC U (Mu v) (kl ((u.ext v).below (φ _))) (km (κ.cH u))<|aC U (l9 v) U (ff _ _)<|yu U U ((show(size:Int) - 1=((size - 1:Nat):Int) by omega)) ⟨by omega,by omega⟩<|aY U U<|SD v <| λh6 n6 e6=>A9 U U ((show((r2*1000000000:Nat):Int)+(r1:Int)=((head:Nat):Int) by omega)) ⟨by omega,by omega⟩<|ak U<|bU (⟨⟨ω (by simp[Nat.testBit]),bH (l9 (Ext.refl _ _)) (l9 v),trivial⟩,⟨ω (by simp[Nat.testBit]),bH (Mu (Ext.refl _ _)) (Mu v),trivial⟩,⟨ω (by simp[Nat.testBit]),ω (by simp[Nat.testBit]),trivial⟩,⟨ω (by simp[Nat.testBit]),ω (by simp[Nat.testBit]),trivial⟩,trivial⟩) ?_;have D:Ext d k h6 n6:=v.trans e6;have x6:=x4.trans D;have k6':Kp h n h6 n6 bo cN:=k4'.ext D;clear v e6 SD SC;have d10:=C7.ext x6;have zB:(0:Int)<=((head / b.getD (size - 1) 0:Nat):Int):=pL _;have EY:((head / b.getD (size - 1) 0:Nat):Int)<=18446744073709551615:=by generalize head / b.getD (size - 1) 0=y at Kj ⊢;omega
 refine cX<|ak U<|aC U (d10.ld U _) U (ff _ _)<|Pb U U Ki (⟨zB,EY⟩)<|ak U<|aC U (d10.ld U _) U (ff _ _)<|aaI U U Ki<|ak U<|ak U<|bU (by simp[AG,jD,mn,Nat.testBit]) ?_;refine θ<|Ω<|θ<|aj ?_;have i6:=u.ext D;have aiN:=jv.ext D;have C9:head % b.getD (size - 1) 0<Bg:=Nat.lt_trans (j4 _ Ki) htb;refine χ (aiD t (c9.ext x6) d10 (oP.ext x6) aiN i6 o.1 (by omega) kR (by omega) dg hP htb (b8:=b8) (b12:=b12) (i:=i) ?_ (head / b.getD (size - 1) 0) (head % b.getD (size - 1) 0) h6 n6 (Ext.refl _ _) (by rw[cT];exact tY _ _) EZ.1 EZ.2 C9) (ρ.rf U);intro g h7 j E7 N th wJ Ww hE;refine bS hE ?_;clear hE zB EY C9 EZ Kj dg hP;have x7:=x6.trans N;have aiO:=Ww;simp only[Bg]at aiO;have d8:=c8.ext x7;have zG:=ib.ext x7;have e47:=D.trans N;have l8:∀{H:Hf},Ag j h7 H->bj H true 1 (.p b8 0)=some (.a [vb]):=λag=>bc (d8.ext (ag.x (φ _))).2 rfl;refine cX<|aC U (l8 (Ag.refl _ _)) (kl (zG.below (φ _))) (km (κ.cH zG))<|ak U<|rB U ⟨by omega,by omega⟩<|lP U <| λh8 n8 sY a8 O=>aY U U<|uM t (l:=[g]) (φ _) (κ.whole (len:=1) (by omega) a8 rfl) (by simp) <| λv9 h9 n9 w i9 Wx Kk=>qi (mW rfl i9.cells i9.one)<|aY U U<|Kg t (by omega) (by have:=wN [g];simp only[dy,jy]at this;omega) nb.1 (Rr (Sm.cons Ww Sm.nil)) ((zG.ext O).ext w) (i9.up w.1) <| λv10 Mv gP z P xA S aiP aiQ=>ux <| λfX E E0 wv qT=>eT U U ((EV (by have:=w.1;have:=P.1;omega)).trans wv) (cj rfl rfl (en xA.one)) <| λF xB b12=>bU (⟨⟨ω (by simp[Nat.testBit]),ω (by simp[Nat.testBit]),bH (l8 ((O.ag.hp z none (by have:=w.1;have:=P.1;omega)).hp j none (φ _))) (l8 (((O.trans w).ag.hp z none (by have:=w.1;have:=P.1;omega)).hp j none (φ _))),trivial⟩,trivial⟩) ?_;have z8:=O.1;have z9:=w.1;have z10:=P.1;have z11:z.num<=E.num:=by omega
 have SE:bm z (hp fX j (gP j)) F:=b12;have SF:Ext (hp gP j none) z fX E:=qT;have aiS:Ag j h7 F:=((((((O.trans w).trans P).ag.hp j none (φ _)).ext SF (by omega)).hp j (gP j) (φ _)).ab SE (by omega));have T:Ext h7 j F E:=aiS.x (by omega);have SG:v10=.ns\/v10.blk.num≠j.num:=aiQ.imp id λh=>by omega
 have Kl:aF F E .u32 v10 Mv:=(((xA.ab (jh gP j none) SG).ext SF).ab (jh fX j _) SG).ab SE (xA.pk.imp id λh=>by omega);have Gg:Cl F E z [v10] 297:=⟨by omega,xB⟩;have G:val Bg Mv=g*val Bg b:=by rw[aiP,nU];simp only[val,jx,hJ];rw[cT]
 clear a8 wv xB b12 xA i9;have W:=e47.trans T;have Mw:=x7.trans T;have oY:Dv h0 n0 F E bo b12 cN L m R:=⟨Mw,c.mw.ext W,c.jv.ext W,by obtain⟨ds,g1,X⟩:=c.co;exact⟨ds,g1,X.ext W⟩,c.ir.ext W,o,c.sep⟩;have aiT:Kp h n F E bo cN:=(k6'.ext N).ext T;have nt:Mv.length<=size+1:=by apply EO (B:=Bg) S.2 (by decide);rw[G,fy,←eS];have h1:=nT nb.1;have h3:g*val Bg b<=Bg*val Bg b:=fJ _ (by omega);have d:Bg*val Bg b<Bg*Bg ^ b.length:=Ds h1 (by decide);rw[cT (Bg ^ b.length)];omega
 have SH:∀g',g'*val Bg b<=val Bg R->val Bg R<g'*val Bg b+val Bg b->val Bg R - g'*val Bg b=(x+Bg*val Bg r) % val Bg b:=λg' h1 h2=>by rw[←vR];exact Rx qP h1 h2
 have rF:val Bg R<(g+1)*val Bg b:=ep ((xH qP).1 (Nat.lt_succ_of_le wJ)) (φ _);rw[fM,Nat.one_mul]at rF;refine θ<|ε<|ξ U (bc Gg.2 rfl)<|ξ U (bc oY.jv.2 rfl)<|ψ U U<|Ss t (by omega) (by omega) S o Kl oY.ir <| λmY vF q=>bC U U<|δ ?_;rw[G];have Y:=W.trans q;have Mx:Dv h0 n0 mY vF bo b12 cN L m R:=⟨Mw.trans q,c.mw.ext Y,c.jv.ext Y,by obtain⟨ds,g1,X⟩:=c.co;exact⟨ds,g1,X.ext Y⟩,c.ir.ext Y,o,c.sep⟩;have SI:Kp h n mY vF bo cN:=aiT.ext q;by_cases vC:val Bg R<g*val Bg b
 ·have qn:fk (g*val Bg b) (val Bg R)=1:=by unfold fk;rw[Θ (by omega),ao vC]
  rw[qn];have mq:0<g:=by
   rcases Nat.eq_zero_or_pos g with h | h
   ·rw[h,Nat.zero_mul]at vC;omega
   ·exact h
  have BZ:(g - 1)*val Bg b+val Bg b=g*val Bg b:=by rw[←rX];congr 1;omega
  refine ah U (by simp) ?_;refine ε<|γ U<|jR U U ((show(g:Int) - 1=((g - 1:Nat):Int) by omega)) ⟨by omega,by omega⟩<|γ U<|δ ?_;have d8':=(d8.ext T).ext q;refine aA<|ξ U (bc (Gg.ext q).2 rfl)<|ξ U (bc d8'.2 rfl)<|ψ U U<|Sv t (by omega) (by omega) S.1 nb (Kl.ext q) ((zG.ext T).ext q) (by rw[G];omega) <| λv14 Wy tt B5 oV My SJ aiU aiV=>aH U U (((Gg.ext q).ext oV).2) (cj rfl rfl (en My.one)) <| λZ Km Gh=>δ ?_;have B6:bm z tt Z:=Gh;have arA:=q.1;have z14:=oV.1;have zn:n.num<=z.num:=by have:=D.1;have:=N.1;omega
  have B7:Ext d k Z B5:=(Y.trans oV).ab B6 (by have:=D.1;have:=N.1;omega);have s15:Dv h0 n0 Z B5 bo b12 cN L m R:=⟨x4.trans B7,c.mw.ext B7,c.jv.ext B7,by obtain⟨ds,g1,X⟩:=c.co;exact⟨ds,g1,X.ext B7⟩,c.ir.ext B7,o,c.sep⟩;have aiW:Kp h n Z B5 bo cN:=(SI.ext oV).ab B6 (Or.inr (Or.inr (by omega)));have Gi:aF Z B5 .u32 v14 Wy:=My.ab B6 (aiV.imp id λh=>by omega);rw[G]at aiU;have Kn:val Bg Wy=(g - 1)*val Bg b:=by omega
  have arB:Wy.length<=Mv.length:=nV SJ.2 S.1 (by decide) (by rw[Kn,G];omega);refine χ (SA t ho Mt qR (i:=i) (g:=g - 1) s15 aiW (by omega) ⟨by omega,Km⟩ Gi SJ (by omega) (by omega) (by omega) (by rw[Kn];omega) ?_) (ρ.rf U);intro A r' h' n' E' s' k' Ko mf;refine I A r' h' n' E' s' k' Ko ?_;rw[mf,Kn];exact SH _ (by omega) (by omega)
 ·have qn:¬ 0<fk (g*val Bg b) (val Bg R):=by unfold fk;split<;>(try split)<;>omega
  refine ae U (by simpa using qn)<|Ω ?_;refine χ (SA t ho Mt qR (i:=i) (g:=g) Mx SI (by omega) (Gg.ext q) (Kl.ext q) S (by omega) (by omega) Ww (by rw[G];omega) ?_) (ρ.rf U);intro A r' h' n' E' s' k' Ko mf;refine I A r' h' n' E' s' k' Ko ?_;rw[mf,G];exact SH _ (by omega) (by omega)
end
end
section
variable {C:Nat->Option aI}{h:Hf}{n:K}{Q:V->Hf->K->Prop}
section
variable {hs:Hf}{ns b2 b4 b5 b6 b7 b8 b9 iy jY b12 cN bo:K}{L:Nat}
def aiX(A:Cd C){vs vr:V}{s:Nat}{r ds:List Nat}(x:Ext hs ns h n)(wc:ns.num<=b4.num)(Ge:b4.num<b5.num)(X:0<s)(Y:s<Bg)
 (c4:Cl h n b4 [.ns] 297)(c5:Cl h n b5 [.ns] 297)(c6:Cl h n b6 [vs] 297)(is:aF h n .u32 vs [s])(mw:Cl h n b12 [.sl bo 0 L L] 295)(co:Cl h n bo (nC .u32 ds) 342)(Z:ds.length=L)(hL:L<2000)(zw:b5.num<bo.num)
 (jv:Cl h n cN [vr] 297)(ir:aF h n .u32 vr r)(nr:dC Bg r)(gD:r.length<1000)
 (hQ:∀B q e r2 h' n',Ext hs ns h' n'->aF h' n' .u32 B q->aF h' n' .u32 e r2->dC Bg r2->val Bg r2=val Bg r / s->(e=.ns\/ns.num<=e.blk.num)->Q (.u [.a [B],.a [e]]) h' n'):
 WC C abz [(k4,.p b4 0),(k5,.p b5 0),(k6,.p b6 0),(rS,.p b12 0),(uY,.p cN 0)] h n (fq [.cell k4 true 1,.cell k5 true 1] Q):=by
 have h0:0<([s]:List Nat).length:=by simp
 have z4:=c4.1;have z5:=c5.1;have zo:=co.1;have zx:=x.1;refine cX<|aC U (bc jv.2 rfl) (kl (ir.below (φ _))) (km (κ.cH ir))<|bG U<|aC U (c6.ld U _) (is.below (φ _)) (κ.cH is)<|cK U U is h0<|aC U (is.get h0 _) U (ff _ _)<|aY U U<|Sx A gD nr.1 X Y ir <| λv1 q1 e q2 h1 n1 l D nq1 vq1 E nq2 vq2 s1 s2=>ak U<|yq U U<|yq U U<|ux <| λh2 m dS F G=>ux <| λo f gJ I J=>eT U U ((eQ o n1 (h2 n1)).trans F) (cj rfl rfl (en D.one)) <| λM N t=>eT U U ((t m (by omega)).trans ((EV (by omega)).trans I)) (cj rfl rfl (en E.one)) <| λc a5 O=>bU (⟨⟨ω (by simp[Nat.testBit]),ω (by simp[Nat.testBit]),ω (by simp[Nat.testBit]),trivial⟩,⟨ω (by simp[Nat.testBit]),ω (by simp[Nat.testBit]),ω (by simp[Nat.testBit]),trivial⟩,⟨ω (by simp[Nat.testBit]),ω (by simp[Nat.testBit]),ω (by simp[Nat.testBit]),trivial⟩,trivial⟩) ?_;have BX:bm n1 (hp o n1 (h2 n1)) M:=t;have P:bm m M c:=O;have C5:Ext (hp h2 n1 none) m o f:=J;have ag5:Ag n1 h1 c:=(((((G.ag.hp n1 none (φ _)).ext C5 (by omega)).hp n1 (h2 n1) (φ _)).ab BX (φ _)).ab P (by omega));have v:Ext h1 n1 c f:=ag5.x (by omega);have g:=D.ext v;have R:Cl c f n1 [v1] 297:=⟨by omega,(P n1 (by omega)).trans N⟩;have d:=l.trans v;have d4:=c4.ext d;have d5:=c5.ext d;have d12:=mw.ext d;have do':=co.ext d;have io:aF c f .u32 (.sl bo 0 L L) ds:=do'.oJ Z;clear F I N a5 G J t O E;have x5:=x.trans d;have i:∀{H:Hf},Ag f c H->bj H true 1 (.p n1 0)=some (.a [v1]):=λag=>bc (R.ext (ag.x (φ _))).2 rfl;have zz:=d.1;have z15:=v.1;refine cX<|aC U (d12.ld U _) (io.below (φ _)) (κ.cH io)<|aY U U<|uM A (φ _) io (by omega) <| λw h6 S b j hb6 hs6=>qi (mW rfl j.cells j.one)<|aC U (i b.ag) (kl ((g.ext b).below (φ _))) (km (κ.cH g))<|eT U U ((d4.ext b).2) (cj rfl rfl (en j.one)) <| λT a7 y=>eT U U ((Cl.ab (n:=S) (d5.ext b) y (by omega)).2) (cj rfl rfl (en g.one)) <| λW a8 qz=>bU (⟨⟨ω (by simp[Nat.testBit]),bH (i b.ag) (bc ((y n1 (by have:=l.1;omega)).trans (R.ext b).2) U),bH (i (Ag.refl _ _)) (i b.ag),trivial⟩,⟨ω (by simp[Nat.testBit]),ω (by simp[Nat.testBit]),ω (by simp[Nat.testBit]),trivial⟩,trivial⟩) ?_;have z:bm b4 h6 T:=y;have k:bm b5 T W:=qz;refine Γ ⟨_,A2 rfl (bc (l':=[w]) ((k b4 (by omega)).trans a7) U) U (bc a8 rfl),?_⟩;have k6:w.blk.num=bo.num:=by rw[hb6];rfl
 have z1:=l.1;have z6:=b.1;refine hQ w (cG ds) v1 q1 W S (((x5.trans b).ab z (by omega)).ab k (by omega)) ?_ ?_ nq1 vq1 (s1.imp id λh=>by omega)
 ·exact((j.up z6).ab z (Or.inr (by omega))).ab k (Or.inr (by omega))
 ·exact((g.ext b).ab z (s1.imp id λh=>by omega)).ab k (s1.imp id λh=>by omega)
def ai2(D:Cd C){va vs E S:V}{a A B ss:List Nat}{s size:Nat}(x:Ext hs ns h n)(wc:ns.num<=b4.num)(Ge:b4.num<b5.num)(xC:0<s)(Gj:s<Bg)
 (c2:Cl h n b2 [va] 297)(ia:aF h n .u32 va a)(eJ:a.length<900)(c4:Cl h n b4 [.ns] 297)(c5:Cl h n b5 [.ns] 297)(c6:Cl h n b6 [vs] 297)(is:aF h n .u32 vs [s])
 (c7:Cl h n b7 [E] 297)(T:aF h n .u32 E A)(nA:Sm Bg A)(hlA:A.length<1000)
 (c8:Cl h n b8 [S] 297)(iB:aF h n .u32 S B)(F:dC Bg B)(G:B.length=size)(W:2<=size)(dK:size<500)(c9:Cl h n b9 [iN size] 3)(C7:Cl h n iy [.i .u64 (B.getD (size - 1) 0:Nat)] 349)(oP:Cl h n jY [.i .u64 (B.getD (size - 2) 0:Nat)] 349)
 (kg:Bg<=2*B.getD (size - 1) 0)
 (hQ:∀w q l r2 h' n',Ext hs ns h' n'->aF h' n' .u32 w q->aF h' n' .u32 l r2->dC Bg r2->val Bg r2=val Bg A % val Bg B / s->(l=.ns\/ns.num<=l.blk.num)->Q (.u [.a [w],.a [l]]) h' n'):
 WC C Ia [(k2,.p b2 0),(k4,.p b4 0),(k5,.p b5 0),(k6,.p b6 0),(k7,.p b7 0),(k8,.p b8 0),(k9,.p b9 0),(qg,.p iy 0),(qh,.p jY 0)] h n (fq [.cell k4 true 1,.cell k5 true 1] Q):=by
 have X:0<val Bg B:=by have:=RB (B:=Bg) (by decide) F.1 G W (by simp only[Bg]at kg;omega);have h2:0<Bg ^ (size - 2)*Bg:=Nat.mul_pos (Nat.pow_pos (by decide)) (by decide);omega
 refine ε<|σ U<|ξ U (c2.ld U _)<|al U ia<|gT U U ((show(a.length:Int)+1=((a.length+1:Nat):Int) by omega)) ⟨by omega,by omega⟩<|pA U U (by omega) (by omega) <| λh1 n1 cA Y H=>bA <| λh2 k dS a2 Z=>aH U U a2 U <| λJ a3 b3=>δ ?_;rw[wA]at Y;have x3:Ext h n J k:=(H.trans Z).ab b3 (by omega);have co:Cl J k n (nC .u32 (List.replicate (a.length+1) 0)) 342:=Cl.ab (n:=k) (Cl.ext ⟨by omega,Y⟩ Z) b3 (by omega);refine ε<|ji U<|bA <| λh4 M jZ a4 e4=>aH U U a4 U <| λN a5 oj=>δ ?_;have O:Ext J k N M:=e4.ab oj (φ _);have P:=x3.trans O;have mw:Cl N M n1 [.sl n 0 (a.length+1) (a.length+1)] 295:=Cl.ext ⟨by omega,a3⟩ O;have dv:Dv h n N M n n1 k (a.length+1) .ns []:=⟨P,mw,⟨by omega,a5⟩,⟨_,by simp,co.ext O⟩,aF.nil,dC.nil,Or.inl U⟩;have d7:=c7.ext P;have iA5:=T.ext P;refine θ<|ε<|σ U<|ξ U (d7.ld U _)<|ψ U U<|Kc D iA5 (by omega) ?_;intro y e h6 m v a6 je dY it;refine δ ?_;have y6:=v.1;have zx:=x.1;have z:Dv h n h6 m n n1 k (a.length+1) .ns []:=⟨dv.ext.trans v,dv.mw.ext v,dv.jv.ext v,by obtain⟨ds,g1,d⟩:=dv.co;exact⟨ds,g1,d.ext v⟩,aF.nil,dC.nil,Or.inl U⟩;let I:Nat->Hf->K->Prop:=λj h' n'=>(y.num<n'.num/\h' y=some (.c [E] e 0))/\∃vr r,Dv h n h' n' n n1 k (a.length+1) vr r/\(vr=.ns\/m.num<vr.blk.num)/\val Bg r=val Bg (A.drop (A.length - j)) % val Bg B;have ai3:∀{h1 m1 h2 m2 vr r},Dv h n h1 m1 n n1 k (a.length+1) vr r->Ext h1 m1 h2 m2->Dv h n h2 m2 n n1 k (a.length+1) vr r:=λs e=>⟨s.ext.trans e,s.mw.ext e,s.jv.ext e,by obtain⟨ds,g1,d⟩:=s.co;exact⟨ds,g1,d.ext e⟩,s.ir.ext e,s.B0,s.sep⟩;refine aj<|sJ U it I (λ_ _ _=>False) ?_ ?_ ?_ ?_ ?_ ?_ ?_ ?_
 ·rintro j h1 m1 h' n' ⟨⟨d,o⟩,vr,r,b,gs,g⟩ ex;exact⟨⟨ep d ex.1,by rw[ex.2 _ d];exact o⟩,vr,r,ai3 b ex,gs,g⟩
 ·rintro j h1 m1 h' ⟨⟨d,o⟩,vr,r,b,gs,g⟩ f;refine⟨⟨d,by rw[f _ (by omega)];exact o⟩,vr,r,⟨b.ext.ab f (by omega),b.mw.ab f (by omega),b.jv.ab f (by omega),by obtain⟨ds,f1,f2⟩:=b.co;exact⟨ds,f1,f2.ab f (by omega)⟩,b.ir.ab f (gs.imp id λh=>by omega),b.B0,b.sep⟩,gs,g⟩
 ·rintro j h1 m1 ⟨d,vr,r,b,_⟩;exact⟨d.1,d.2,T.ext b.ext⟩
 ·intro j hj;rw[sQ];rfl
 ·intro h' f;have Mp:m.succ.num=m.num+1:=K.eF m;refine⟨⟨by omega,by rw[f _ (by omega)];exact a6⟩,.ns,[],⟨(z.ext.ab f (by omega)).succ,(z.mw.ab f (by omega)).up (by omega),(z.jv.ab f (by omega)).up (by omega),by obtain⟨ds,f1,f2⟩:=z.co;exact⟨ds,f1,(f2.ab f (by omega)).up (by omega)⟩,aF.nil,dC.nil,Or.inl U⟩,Or.inl U,?_⟩;rw[mF,jw];simp[val]
 ·rintro j hj h7 n7 E1 oW ⟨⟨d,o⟩,vr,r,b,gs,g⟩ R;have bV:j<A.length:=by rw[qs]at hj;exact hj
  rw[sQ]at R;simp only[jB,lK]at R;subst R;have hi:A.length - 1 - j<A.length:=by omega
  rw[show A.length - j=(A.length - 1 - j)+1 by omega]at g;have qo:A.length - (j+1)=A.length - 1 - j:=by omega
  generalize A.length - 1 - j=i at*;rw[gW hi];refine ε<|γ U<|δ<|aA<|γ U<|δ ⟨rfl,rfl,λh8 t=>?_⟩;have g4':Dv h n h8 n7 n n1 k (a.length+1) vr r:=⟨b.ext.ab t (by omega),b.mw.ab t (by omega),b.jv.ab t (by omega),by obtain⟨ds,f1,f2⟩:=b.co;exact⟨ds,f1,f2.ab t (by omega)⟩,b.ir.ab t (gs.imp id λh=>by omega),b.B0,b.sep⟩;refine χ (aiL D (i:=i) (φ _) (by omega) (by omega) c8 iB F G W dK c9 C7 oP kg g4' (by rw[g];exact j4 _ X) (nA.get hi) ?_) (ρ.rf U);intro kZ r' h' n' E' s' k' Ko mf;have z1:=k'.1;refine⟨by omega,k'.2 m (by omega) (by omega) (by omega),⟨by omega,(k'.2 y d (by omega) (by omega)).trans ((t y (by omega)).trans o)⟩,kZ,r',s',Ko.imp id λh=>by omega,?_⟩;rw[qo,mf,wE A hi,g,Je]
 ·rintro h' n' oW ⟨⟨d,o⟩,vr,r,b,gs,g⟩;rw[qs,lL,gb]at g;obtain⟨ds,qU,f2⟩:=b.co;have xx:=x.trans b.ext;have hlr:r.length<=size:=by rw[←G];exact nV b.B0.2 F.1 (by decide) (by rw[g];exact eu (j4 _ X))
  have z5:=c5.1;refine χ (aiX D xx wc Ge xC Gj (c4.ext b.ext) (c5.ext b.ext) (c6.ext b.ext) (is.ext b.ext) b.mw f2 qU (by omega) (by omega) b.jv b.ir b.B0 (by omega) (λw q l r2 xq ma H i1 i2 Db CK s2=>hQ w q l r2 xq ma H i1 i2 Db (by rw[CK,g]) s2)) (ρ.rf U)
 ·rintro ex h' n' oF oW hf;exact hf.elim
end
end
section
variable {C:Nat->Option aI}{h:Hf}{n:K}{Q:V->Hf->K->Prop}
section
variable {hs:Hf}{ns b2 b3 b4 b5:K}
def ai4(hC:Cd C){va vb:V}{a b:List Nat}(x:Ext hs ns h n)(wc:ns.num<=b4.num)(Ge:b4.num<b5.num)
 (c2:Cl h n b2 [va] 297)(ia:aF h n .u32 va a)(eJ:a.length<400)(na:dC Bg a)(c3:Cl h n b3 [vb] 297)(ib:aF h n .u32 vb b)(eH:b.length<400)(nb:dC Bg b)(dY:2<=b.length)(c4:Cl h n b4 [.ns] 297)(c5:Cl h n b5 [.ns] 297)
 (hQ:∀T q G r2 h' n',Ext hs ns h' n'->aF h' n' .u32 T q->aF h' n' .u32 G r2->dC Bg r2->val Bg r2=val Bg a % val Bg b->(G=.ns\/ns.num<=G.blk.num)->Q (.u [.a [T],.a [G]]) h' n'):
 WC C Py [(k2,.p b2 0),(k3,.p b3 0),(k4,.p b4 0),(k5,.p b5 0)] h n (fq [.cell k4 true 1,.cell k5 true 1] Q):=by
 have W:b.length - 1<b.length:=by omega
 have g1:bj h false 1 (.p vb.blk (vb.off+(b.length - 1)*1))=some (.i .u32 (b.getD (b.length - 1) 0:Nat)):=by rw[gW W];exact ib.get W 1
 have q1:b.getD (b.length - 1) 0<Bg:=nb.1.getD (by decide) _;have Gf:=q1;simp only[Bg]at Gf;generalize Dc:b.getD (b.length - 1) 0=z at*;obtain⟨s,L⟩:∃s,s=1000000000 / (z+1):=⟨_,rfl⟩;have jg:s<=1000000000:=by rw[L];exact Nat.div_le_self _ _
 have z2:=c2.1;have z3:=c3.1;refine ε<|σ U<|ξ U (c3.ld U _)<|σ U<|ξ U (c3.ld U _)<|al U ib<|jR U U (show(b.length:Int) - 1=((b.length - 1:Nat):Int) by omega) ⟨by omega,by omega⟩<|aB U U ib W<|ξ U g1<|kS U ⟨by omega,by omega⟩<|gT U U (show(z:Int)+1=((z+1:Nat):Int) by omega) ⟨by omega,by omega⟩<|A4 (a:=1000000000) (b:=z+1) U U (by omega) ⟨pL _,by rw[←L];omega⟩<|?_;rw[←L];refine kS U ⟨by omega,by omega⟩<|eg U <| λh1 n1 cA a1 X=>ji (mW (v:=.sl n 0 1 1) U U U)<|bA <| λh2 M dS a2 e2=>aH U U a2 (cj rfl rfl rfl) <| λm a3 tc=>δ ?_;have BB:bm n1 h2 m:=tc;have N:Ext h n m M:=(X.trans e2).ab BB (by omega);have is3:aF m n1 .u32 (.sl n 0 1 1) [s]:=(aF.ext (n:=n1) (κ.whole (len:=1) (by omega) a1 rfl) (⟨φ _,λk hk=>(BB k (by omega)).trans (e2.2 k hk)⟩));have c6:Cl m M n1 [.sl n 0 1 1] 297:=⟨by omega,a3⟩;have d2:=c2.ext N;have d3:=c3.ext N;have oK:=ia.ext N;have oL:=ib.ext N;have A:aF m M .u32 (.sl n 0 1 1) [s]:=is3.up (by omega);have l3:∀{H:Hf},Ag M m H->bj H true 1 (.p b3 0)=some (.a [vb]):=λag=>bc (d3.ext (ag.x (φ _))).2 rfl;have l6:∀{H:Hf},Ag M m H->bj H true 1 (.p n1 0)=some (.a [.sl n 0 1 1]):=λag=>bc (c6.ext (ag.x (φ _))).2 rfl;have tx:∀{l:List Nat},dC Bg l->val Bg l=val Bg b*s->l.length=b.length/\Bg<=2*l.getD (b.length - 1) 0/\1<=s/\s<Bg:=λhn hv=>
  afM (B:=Bg) (H:=500000000) (by decide) (by decide) nb (by omega) (by rw[Dc,L]) hn hv
 have Gj:s<Bg:=by
  have h1:s<=1000000000:=jg;rcases iG s Bg with h | h
  ·exact h
  ·exfalso;have arC:0<z:=by
    have aG:b≠[]:=λe=>by rw[e]at dY;simp at dY
    have:=nb.2 aG;rw[List.getLast_eq_getElem,←gW W]at this;omega
   have:s*(z+1)<=1000000000:=by rw[L];exact Nat.div_mul_le_self _ _
   have m:Bg*2<=s*(z+1):=ua h (by omega);simp only[Bg]at m;omega
 have sS:Sm Bg [s]:=Sm.cons Gj Sm.nil;clear g1 a1 a2 a3 tc X e2;refine cX<|aC U (bc d2.2 rfl) (kl (oK.below (φ _))) (km (κ.cH oK))<|aC U (l6 (Ag.refl _ _)) (kl (A.below (φ _))) (km (κ.cH A))<|aY U U<|Kg hC (by omega) (by simp) na.1 sS oK A <| λv4 p4 h4 n4 f i4 np4 vl4 arD=>aC U (l3 f.ag) (kl ((oL.ext f).below (φ _))) (km (κ.cH oL))<|aC U (l6 f.ag) (kl ((A.ext f).below (φ _))) (km (κ.cH A))<|aY U U<|Kg hC (by omega) (by simp) nb.1 sS (oL.ext f) (A.ext f) <| λI d h5 g j i5 Y vl5 Ks=>ux <| λZ t jl a6 e6=>ux <| λh7 y oW a7 e7=>eT U U ((eQ h7 g (Z g)).trans a6) (cj rfl rfl (en i4.one)) <| λh8 a8 qz=>eT U U ((qz t (by omega)).trans ((EV (by omega)).trans a7)) (cj rfl rfl (en i5.one)) <| λJ a9 b9'=>bU (⟨⟨ω (by simp[Nat.testBit]),ω (by simp[Nat.testBit]),ω (by simp[Nat.testBit]),bH (l6 (((Ag.refl _ _).hp t none (by have:=f.1;have:=j.1;omega)).hp g none (by have:=f.1;have:=j.1;omega))) (l6 ((f.ag.hp t none (by have:=f.1;have:=j.1;omega)).hp g none (by have:=f.1;have:=j.1;omega))),trivial⟩,⟨ω (by simp[Nat.testBit]),ω (by simp[Nat.testBit]),ω (by simp[Nat.testBit]),bH (l3 (((Ag.refl _ _).hp t none (by have:=f.1;have:=j.1;omega)).hp g none (by have:=f.1;have:=j.1;omega))) (l3 ((f.ag.hp t none (by have:=f.1;have:=j.1;omega)).hp g none (by have:=f.1;have:=j.1;omega))),trivial⟩,⟨ω (by simp[Nat.testBit]),ω (by simp[Nat.testBit]),ω (by simp[Nat.testBit]),ω (by simp[Nat.testBit]),trivial⟩,⟨ω (by simp[Nat.testBit]),ω (by simp[Nat.testBit]),ω (by simp[Nat.testBit]),ω (by simp[Nat.testBit]),trivial⟩,trivial⟩) ?_;have z4:=f.1;have z5:=j.1;have yL:bm g (hp h7 g (Z g)) h8:=qz;have SK:bm t h8 J:=b9';have Kt:Ext (hp Z g none) t h7 y:=e7;have ag9:Ag g h5 J:=(((((e6.ag.hp g none (φ _)).ext Kt (by omega)).hp g (Z g) (φ _)).ab yL (φ _)).ab SK (by omega));have MD:Ext h5 g J y:=ag9.x (by omega);have e39:=(f.trans j).trans MD;have c7:Cl J y g [v4] 297:=⟨by omega,(SK g (by omega)).trans a8⟩;have c8:Cl J y t [I] 297:=⟨by omega,a9⟩;have i4':=(i4.ext j).ext MD;have CM:=i5.ext MD;clear a6 a7 a8 a9 e6 e7 qz b9';have z59:=MD.1;obtain⟨ME,Dd,xC,_⟩:=tx Y (by rw[vl5];simp only[val,jx,hJ]);rw[←ME]at Dd;refine ε<|σ U<|ξ U (c8.ld U _)<|al U CM<|bA <| λgP c E8 oE fI=>aH U U oE U <| λw wv SL=>δ ?_;have ai8:bm y gP w:=SL;have E9:Ext J y w c:=fI.ab ai8 (φ _);have c9:Cl w c y [iN d.length] 3:=⟨by omega,wv⟩;have c8':=c8.ext E9;have D:=CM.ext E9;clear oE wv fI SL;have Ku:d.length - 1<d.length:=by omega
 have rG:d.length - 2<d.length:=by omega
 have WA:∀{H:Hf},Ag c w H->bj H false 1 (.p I.blk (I.off+(d.length - 1)*1))=some (.i .u32 (d.getD (d.length - 1) 0:Nat)):=λag=>by rw[gW Ku];exact(D.ext (ag.x (φ _))).get Ku 1
 have Kv:∀{H:Hf},Ag c w H->bj H false 1 (.p I.blk (I.off+(d.length - 2)*1))=some (.i .u32 (d.getD (d.length - 2) 0:Nat)):=λag=>by rw[gW rG];exact(D.ext (ag.x (φ _))).get rG 1
 have l8:∀{H:Hf},Ag c w H->bj H false 1 (.p t 0)=some I:=λag=>cE (c8'.ext (ag.x (φ _))).2 rfl _;have l9:∀{H:Hf},Ag c w H->bj H false 1 (.p y 0)=some (iN d.length):=λag=>cE (c9.ext (ag.x (φ _))).2 rfl _;have qt1:d.getD (d.length - 1) 0<1000000000:=Y.1.getD (by decide) _;have qt2:d.getD (d.length - 2) 0<1000000000:=Y.1.getD (by decide) _;have MF:=D.below (φ c.num);have arE:d.length<1000:=by omega
 refine cX<|bG U<|aC U (l8 (Ag.refl _ _)) MF (κ.cH D)<|aC U (l9 (Ag.refl _ _)) U (ff _ _)<|yu U U ((show(d.length:Int) - 1=((d.length - 1:Nat):Int) by omega)) ⟨by omega,by omega⟩<|cK U U D Ku<|aC U (WA (Ag.refl _ _)) U (ff _ _)<|rB U ⟨by omega,by omega⟩<|bG U<|aC U (l8 (Ag.refl _ _)) MF (κ.cH D)<|aC U (l9 (Ag.refl _ _)) U (ff _ _)<|yu U U ((show(d.length:Int) - 2=((d.length - 2:Nat):Int) by omega)) ⟨by omega,by omega⟩<|cK U U D rG<|aC U (Kv (Ag.refl _ _)) U (ff _ _)<|rB U ⟨by omega,by omega⟩<|ux <| λo r Pg xB E=>ux <| λmY vF ai9 Jy F=>eT U U ((eQ mY c (o c)).trans xB) U <| λtt C4 O=>eT U U ((O r (by omega)).trans ((EV (by omega)).trans Jy)) U <| λP Km B6=>bU (⟨⟨ω (by simp[Nat.testBit]),bH (Kv (((((E.ag.hp c none (φ _)).ext F (by omega)).hp c (o c) (φ _)).hp r none (by omega)).hp c none (φ _))) (Kv ((((((E.ag.hp c none (φ _)).ext F (by omega)).hp c (o c) (φ _)).ab O (φ _)).hp r none (by omega)).hp c none (φ _))),trivial⟩,⟨ω (by simp[Nat.testBit]),bH (l9 (((((E.ag.hp c none (φ _)).ext F (by omega)).hp c (o c) (φ _)).hp r none (by omega)).hp c none (φ _))) (l9 ((((((E.ag.hp c none (φ _)).ext F (by omega)).hp c (o c) (φ _)).ab O (φ _)).hp r none (by omega)).hp c none (φ _))),trivial⟩,⟨ω (by simp[Nat.testBit]),bH (l8 (((((E.ag.hp c none (φ _)).ext F (by omega)).hp c (o c) (φ _)).hp r none (by omega)).hp c none (φ _))) (l8 ((((((E.ag.hp c none (φ _)).ext F (by omega)).hp c (o c) (φ _)).ab O (φ _)).hp r none (by omega)).hp c none (φ _))),trivial⟩,⟨ω (by simp[Nat.testBit]),ω (by simp[Nat.testBit]),trivial⟩,⟨ω (by simp[Nat.testBit]),ω (by simp[Nat.testBit]),trivial⟩,⟨ω (by simp[Nat.testBit]),ω (by simp[Nat.testBit]),trivial⟩,trivial⟩) ?_;have aja:bm c (hp mY c (o c)) tt:=O;have SM:bm r tt P:=B6;have ajb:Ext (hp o c none) r mY vF:=F;have ajc:Ag c w P:=(((((E.ag.hp c none (φ _)).ext ajb (by omega)).hp c (o c) (φ _)).ab aja (φ _)).ab SM (by omega));have SN:Ext w c P vF:=ajc.x (by omega);have C7:Cl P vF c [.i .u64 (d.getD (d.length - 1) 0:Nat)] 349:=⟨by omega,(SM c (by omega)).trans C4⟩;have oP:Cl P vF r [.i .u64 (d.getD (d.length - 2) 0:Nat)] 349:=⟨by omega,Km⟩;have R:=E9.trans SN;have Kw:=e39.trans R;have S:=N.trans Kw;have arF:=E9.1;have hp4:val Bg p4=val Bg a*s:=by rw[vl4];simp only[val,jx,hJ]
 have hp5:val Bg d=val Bg b*s:=by rw[vl5];simp only[val,jx,hJ]
 have arG:p4.length<=a.length+1:=by apply EO (B:=Bg) np4.2 (by decide);rw[hp4,fy];have h1:=nT na.1;have m:val Bg a*s<=val Bg a*Bg:=pa _ (by omega);have h4:val Bg a*Bg<Bg ^ a.length*Bg:=Nat.mul_lt_mul_of_pos_right h1 (by decide);omega
 refine χ (ai2 (ss:=[]) hC (x.trans S) wc Ge xC Gj (c2.ext S) (ia.ext S) (by omega) (c4.ext S) (c5.ext S) (c6.ext Kw) (A.ext Kw) (c7.ext R) (i4'.ext R) np4.1 (by omega) (c8.ext R) (CM.ext R) Y rfl (by omega) (by omega) (c9.ext SN) C7 oP Dd ?_) (ρ.rf U);intro T q G r2 h' n' X i1 i2 Db CK s2;refine hQ T q G r2 h' n' X i1 i2 Db ?_ s2;rw[CK,hp4,hp5,Nat.mul_mod_mul_right,Nat.mul_div_cancel _ xC]
end
def aje(m:Cd C){va vb:V}{a b:List Nat}(eJ:a.length<400)(eH:b.length<400)(na:dC Bg a)(nb:dC Bg b)(Y:b≠[])(B:aF h n .u32 va a)(ib:aF h n .u32 vb b)
 (D:∀o q c r2 h' n',Ext h n h' n'->aF h' n' .u32 o q->aF h' n' .u32 c r2->dC Bg r2->val Bg r2=val Bg a % val Bg b->(c=va\/c=.ns\/n.num<=c.blk.num)->Q (.u [.a [o],.a [c]]) h' n'):ν C (.f 299 [] []) [.a [va],.a [vb]] h n Q:=by
 refine ν.go m.f299 U ?_;refine ε<|cR U U (en B.one) <| λh1 n1 cA Z E=>cR U U (en ib.one) <| λh2 k dS a2 e2=>bA <| λh3 F gJ a3 G=>bA <| λr s jZ a4 t=>δ ?_;have x4:=((E.trans e2).trans G).trans t;have c2:Cl r s n [va] 297:=Cl.ext (Cl.ext (Cl.ext ⟨by omega,Z⟩ e2) G) t;have c3:Cl r s n1 [vb] 297:=Cl.ext (Cl.ext ⟨by omega,a2⟩ G) t;have c4:Cl r s k [.ns] 297:=Cl.ext ⟨by omega,a3⟩ t;have c5:Cl r s F [.ns] 297:=⟨by omega,a4⟩;have C1:=B.ext x4;have ib4:=ib.ext x4;clear Z a2 a3 a4;refine θ<|ε<|ξ U (bc c2.2 rfl)<|ξ U (bc c3.2 rfl)<|ψ U U<|Ss m (by omega) (by omega) na nb C1 ib4 <| λh5 H d=>ay U U<|δ ?_;have I:=x4.trans d;have z5:=d.1;have v:=c2.ext d;have J:=c3.ext d;have L:=c4.ext d;have M:=c5.ext d;have e:=C1.ext d;have g:=ib4.ext d;by_cases N:val Bg a<val Bg b
 ·have O:fk (val Bg a) (val Bg b) = -1:=by unfold fk;rw[ao N]
  rw[O];refine ah U (by simp) ?_;have l2:bj h5 true 1 (.p n 0)=some (.a [va]):=bc v.2 rfl;refine cX<|qi U<|aC U l2 (kl (e.below (φ _))) (km (κ.cH e))<|eT U U L.2 (cj rfl rfl rfl) <| λw a6 b6=>eT U U ((Cl.ab (n:=H) M b6 (by omega)).2) (cj rfl rfl (en e.one)) <| λi P b7=>bU (⟨⟨ω (by simp[Nat.testBit]),bH l2 (bc ((b6 n (by omega)).trans v.2) U),trivial⟩,trivial⟩) ?_;have mu:bm k h5 w:=b6;have j:bm F w i:=b7;refine Γ ⟨_,A2 rfl (bc (l':=[.ns]) ((j k (by omega)).trans a6) U) U (bc P rfl),?_⟩;have e7:Ext h n i H:=(I.ab mu (by omega)).ab j (by omega);exact D .ns [] va a i H e7 aF.nil (B.ext e7) na (tZ N).symm (Or.inl U)
 ·have O:¬ fk (val Bg a) (val Bg b)<0:=by rw[RX];exact N
  refine ae U (by simpa using O)<|Ω ?_;refine θ<|ε<|σ U<|ξ U (J.ld U _)<|al U g<|aS U U<|δ ?_;have R:0<b.length:=List.length_pos_iff.2 Y;by_cases h1:b.length=1
  ·refine ah U (by simp[h1]) ?_;have q:=nb.1.get R;have je:val Bg b=b[0]:=by
    match b,h1 with
    | [y],_=>simp[val]
   have ajg:0<b[0]:=by
    have:=nb.2 Y
    match b,h1 with
    | [y],_=>simp only[List.getLast_singleton]at this;exact tV this
   refine cX<|aC U (bc v.2 rfl) (kl (e.below (φ _))) (km (κ.cH e))<|bG U<|aC U (J.ld U _) (g.below (φ _)) (κ.cH g)<|cK U U g R<|aC U (g.get R _) U (ff _ _)<|aY U U<|Sx m (by omega) na.1 ajg q e <| λv1 q1 c r2 w S T x nq1 vq1 z W vr2 s1 l=>yq U U<|yq U U<|eT U U ((L.ext T).2) (cj rfl rfl (en x.one)) <| λi P b7=>eT U U ((Cl.ab (n:=S) (M.ext T) b7 (by omega)).2) (cj rfl rfl (en z.one)) <| λX a8 b8=>bU (⟨⟨ω (by simp[Nat.testBit]),ω (by simp[Nat.testBit]),ω (by simp[Nat.testBit]),trivial⟩,⟨ω (by simp[Nat.testBit]),ω (by simp[Nat.testBit]),ω (by simp[Nat.testBit]),trivial⟩,⟨ω (by simp[Nat.testBit]),ω (by simp[Nat.testBit]),ω (by simp[Nat.testBit]),trivial⟩,trivial⟩) ?_;have j:bm k w i:=b7;have A:bm F i X:=b8;refine Γ ⟨_,A2 rfl (bc (l':=[v1]) ((A k (by omega)).trans P) U) U (bc a8 rfl),?_⟩;have e8:Ext h n X S:=((I.trans T).ab j (by omega)).ab A (by omega);exact D v1 q1 c r2 X S e8 ((x.ab j (s1.imp id λh=>by omega)).ab A (s1.imp id λh=>by omega)) ((z.ab j (l.imp id λh=>by omega)).ab A (l.imp id λh=>by omega)) W (by rw[vr2,je]) (Or.inr (l.imp id λh=>by omega))
  ·refine ae U (by simp<;>omega)<|Ω ?_;refine χ (ai4 m (hs:=h) (ns:=n) I (by omega) (by omega) v e eJ na J g eH nb (by omega) L M ?_) (ρ.rf U);intro o q c r2 h' n' E x z W CK l;exact D o q c r2 h' n' E x z W CK (Or.inr l)
end
section
variable {C:Nat->Option aI}{h:Hf}{n:K}{Q:V->Hf->K->Prop}
def ajh(y:Cd C){h0:Hf}{n0 b2 b3 b4:K}(T:n0.num<=b2.num)(W:n0.num<=b3.num)(Mg:n0.num<=b4.num)(h23:b2.num≠b3.num)(h24:b2.num≠b4.num)(h34:b3.num≠b4.num){G:Nat}
 {Q1:Ex->Env->Hf->K->Prop}(I:∀va g h n E',Ext h0 n0 h n->Cl h n b2 [va] 297->Cl h n b4 [.ns] 297->aF h n .u32 va g->g.length<400->dC Bg g->val Bg g=G->(va=.ns\/va.blk.num≠b4.num)->ρ [(k2,.p b2 0),(k4,.p b4 0)] E'->Q1 .normal E' h n):
 ∀(m:Nat) (va vb:V) (a b:List Nat) (h:Hf) (n:K),val Bg b<=m->a.length<400->b.length<400->dC Bg a->dC Bg b->Nat.gcd (val Bg a) (val Bg b)=G->aF h n .u32 va a->aF h n .u32 vb b->(va=.ns\/va.blk.num≠b2.num/\va.blk.num≠b3.num/\va.blk.num≠b4.num)->(vb=.ns\/vb.blk.num≠b2.num/\vb.blk.num≠b3.num/\vb.blk.num≠b4.num)->Ext h0 n0 h n->Cl h n b2 [va] 297->Cl h n b3 [vb] 297->Cl h n b4 [.ns] 297->WC C abu [(k2,.p b2 0),(k3,.p b3 0),(k4,.p b4 0)] h n (blk 0 Q1):=by
 intro m
 induction m with
 | zero=>
  intro va vb a b h n hm k z l hb o f ib s t he c2 c3 c4;have i:b=[]:=(val_zero (B:=Bg) hb.2 (by decide)).1 (by omega);subst i;refine ax ?_;refine θ<|θ<|aA<|ξ U (bc c3.2 rfl)<|ψ U U<|BT y ib (by omega) <| λh1 n1 d=>bZ U<|δ ?_;exact ae U U<|aJ (I va a h1 n1 _ (he.trans d) (c2.ext d) (c4.ext d) (f.ext d) k l (by simpa[val]using o) (s.imp id λh=>h.2.2) (ρ.rf U))
 | succ m ih=>
  intro va vb a b X Y hm k z l hb o f ib s t he c2 c3 c4;refine ax ?_;refine θ<|θ<|aA<|ξ U (bc c3.2 rfl)<|ψ U U<|BT y ib (by omega) <| λh n d=>bZ U<|δ ?_;replace he:=he.trans d;replace c2:=c2.ext d;replace c3:=c3.ext d;replace c4:=c4.ext d;replace f:=f.ext d;replace ib:=ib.ext d;clear d X Y;by_cases i:b=[]
  ·subst i;exact ae U U<|aJ (I va a h n _ he c2 c4 f k l (by simpa[val]using o) (s.imp id λh=>h.2.2) (ρ.rf U))
  ·have eS:0<b.length:=by cases b with | nil=>exact absurd rfl i | cons=>simp
   refine ah U (by simp<;>omega)<|Ω ?_;have Z:0<val Bg b:=tV λe=>i ((val_zero (B:=Bg) hb.2 (by decide)).1 e);refine aj<|ε<|ξ U (bc c2.2 rfl)<|ξ U (bc c3.2 rfl)<|ψ U U<|aje y k z l hb i f ib <| λvq q vr r h1 n1 d iq ir J L ur=>γ U<|bF U U<|bF U U<|bA <| λh2 M dS a2 e2=>bA <| λh3 A gJ a3 N=>aH U U ((Cl.ext (n:=M) ⟨by omega,a2⟩ N).2) (cj rfl rfl (en iq.one)) <| λh4 a4 O=>aH U U ((Cl.ab (n:=A) ⟨by omega,a3⟩ O (by omega)).2) (cj rfl rfl (en ir.one)) <| λu P t5=>δ ?_;have g2:=c2.1;have g3:=c3.1;have g4:=c4.1;have j:Ext h1 n1 u A:=((e2.trans N).ab O (φ _)).ab t5 (by omega);have R:=(c2.ext d).ext j;have D:=(c3.ext d).ext j;have d4:=(c4.ext d).ext j;have l3:bj u true 1 (.p b3 0)=some (.a [vb]):=bc D.2 rfl;have l6:bj u true 1 (.p M 0)=some (.a [vr]):=bc P rfl;have E:=(ib.ext d).ext j;have F:=ir.ext j;have g1:=d.1;refine nO<|aC U l3 (kl (κ.below E (φ _))) (km (κ.cH E))<|aC U l6 (kl (κ.below F (φ _))) (km (κ.cH F))<|eT U U R.2 (cj rfl rfl (en ib.one)) <| λS a6 b6=>eT U U ((D.ab b6 (by omega)).2) (cj rfl rfl (en ir.one)) <| λv a7 b7=>bU (⟨⟨ω (by simp[Nat.testBit]),bH l6 (bc ((b6 _ (by omega)).trans P) U),trivial⟩,⟨ω (by simp[Nat.testBit]),ω (by simp[Nat.testBit]),trivial⟩,trivial⟩) ?_;have CO:v b2=some (.c [vb] 297 0):=(b7 _ (by omega)).trans a6;have w:bm b2 u S:=b6;have x:bm b3 S v:=b7;have CP:v b3=some (.c [vr] 297 0):=a7;have yd:=j4 (val Bg a) Z;have gD:r.length<400:=by have:=nV (B:=Bg) J.2 hb.1 (by decide) (by rw[L];exact eu yd);omega
   have H:vr=.ns\/vr.blk.num≠b2.num/\vr.blk.num≠b3.num/\vr.blk.num≠b4.num:=by
    rcases ur with h | h | h
    ·rw[h];exact s
    ·exact Or.inl h
    ·exact Or.inr ⟨by omega,by omega,by omega⟩
   refine χ (ih vb vr b r v A (by omega) z gD hb J ?_ ((E.ab w (t.imp id λh=>h.1)).ab x (t.imp id λh=>h.2.1)) ((F.ab w (H.imp id λh=>h.1)).ab x (H.imp id λh=>h.2.1)) t H (((he.trans (d.trans j)).ab w T).ab x W) ⟨R.1,CO⟩ ⟨D.1,CP⟩ ((d4.ab w (by omega)).ab x (by omega))) (ρ.rf U);rw[L,←o,Nat.gcd_comm (val Bg a),Nat.gcd_rec (val Bg b) (val Bg a),Nat.gcd_comm]
def aji(l:Cd C){va vb:V}{a b:List Nat}(q:a.length<400)(r:b.length<400)(s:dC Bg a)(hb:dC Bg b)(i:aF h n .u32 va a)(ib:aF h n .u32 vb b)
 (t:∀c g h' n',Ext h n h' n'->aF h' n' .u32 c g->g.length<400->dC Bg g->val Bg g=Nat.gcd (val Bg a) (val Bg b)->Q (.a [c]) h' n'):ν C (.f 253 [] []) [.a [va],.a [vb]] h n Q:=by
 refine ν.go l.f253 U ?_;refine ε<|cR U U (en i.one) <| λh1 n1 J u v=>cR U U (en ib.one) <| λh2 m L w o=>bA <| λd e M x j=>δ ?_;have k:=(v.trans o).trans j;have c2:Cl d e n [va] 297:=(Cl.ext ⟨by omega,u⟩ o).ext j;have c3:Cl d e n1 [vb] 297:=Cl.ext ⟨by omega,w⟩ j;have c4:Cl d e m [.ns] 297:=⟨by omega,x⟩;refine θ<|aj<|χ (ajh l (h0:=h) (n0:=n) (b2:=n) (b3:=n1) (b4:=m) (φ _) (by omega) (by omega) (by omega) (by omega) (by omega) ?_ _ va vb a b d e (φ _) q r s hb rfl (i.ext k) (ib.ext k) ((i.pk).imp id λh=>⟨by omega,by omega,by omega⟩) ((ib.pk).imp id λh=>⟨by omega,by omega,by omega⟩) k c2 c3 c4) (ρ.rf U);intro c g N y E6 z A B p l6 D E F G;refine bS G ?_;refine ε<|ξ U (bc A.2 rfl)<|aH U U B.2 (cj rfl rfl (en p.one)) <| λH I b7=>δ ?_;refine Γ ⟨_,jE rfl (bc I rfl),?_⟩;exact t c g H y (z.ab b7 (by omega)) (p.ab b7 F) l6 D E
end
section
variable {C:Nat->Option aI}{h:Hf}{n:K}{Q:V->Hf->K->Prop}
def chunk(s:S)(i:Nat):S:=(s.take (s.length - 9*i)).drop (s.length - 9*i - 9)
def Ca(s:S):List (List V):=(List.range ((s.length+8) / 9)).map λi=>[st (chunk s i)]
def Fa(s:S):(Ca s).length=(s.length+8) / 9:=by simp[Ca]
def Kx(s:S){i:Nat}(hi:i<(Ca s).length):(Ca s)[i]=[st (chunk s i)]:=by simp[Ca]
def ajj(k:Cd C){s:S}(hlen:s.length<1000000){b:K}:Pf C (.f 326 [] [.p b 0]) b (some (.c [st s] 9 0)) (Ca s):=by
 intro y I D h n x hB d a hS h0;refine ν.go k.f326 U ?_;refine aj ?_;have key:∀(m i:Nat) (h:Hf) (n:K),(s.length+8) / 9 - i=m->i<=(s.length+8) / 9->b.num<n.num->h b=some (.c [st (s.take (s.length - 9*i))] 9 0)->I i h n->WC C abr [(k0,y),(k1,.p b 0)] h n (blk 0 (fq [] (λv h' n'=>I (Ca s).length h' n'\/D h' n'))):=by
  intro m
  induction m with
  | zero=>
   intro i h n hm hi d a hI;have hl:(s.take (s.length - 9*i)).length=0:=by simp<;>omega
   refine ax ?_;refine θ<|ε<|ξ U (cE a rfl _)<|bN U<|bC U U<|δ ?_;refine ae U (by rw[hl];rfl)<|aJ ⟨_,rfl,Or.inl ?_⟩;rw[Fa];have:i=(s.length+8) / 9:=by omega
   rw[←this];exact hI
  | succ m ih=>
   intro i h n hm hi d a hI;have hl:(s.take (s.length - 9*i)).length=s.length - 9*i:=by simp<;>omega
   have z:0<s.length - 9*i:=by omega
   refine ax ?_;refine θ<|ε<|ξ U (cE a rfl _)<|bN U<|bC U U<|δ ?_;rw[hl];refine ah U (by simp<;>omega)<|Ω ?_;refine aj<|ε<|ξ U (cE a rfl _)<|bN U<|gG U U ⟨by omega,by omega⟩<|HU U U<|γ U<|δ ?_;rw[hl];have l:max (0:Int) ((s.length - 9*i:Nat) - 9:Int)=((s.length - 9*i - 9:Nat):Int):=by omega
   rw[l];have o:i<(Ca s).length:=by rw[Fa];omega
   have q:((s.take (s.length - 9*i)).drop (s.length - 9*i - 9)).take ((s.take (s.length - 9*i)).length - (s.length - 9*i - 9))=chunk s i:=by unfold chunk;exact kI (by simp)
   have:=hS i o h n d hI;rw[Kx,←q]at this;refine θ<|ε<|γ U<|ξ U (cE a rfl _)<|γ U<|wz U U U (by omega) (φ _)<|ψ U U<|ν.mono this ?_;rintro v A r ⟨B,t,⟨rfl,e⟩ | ⟨rfl,e⟩⟩
   ·refine bZ U<|δ<|ae U U<|Ω ?_;have g:=t.trans a;refine aA<|ξ U (cE g rfl _)<|γ U<|wz U U U ((pN _)) ((show s.length - 9*i - 9<=(s.take (s.length - 9*i)).length by omega))<|aH U U g U <| λu j b4=>δ ?_;have w:((s.take (s.length - 9*i)).drop 0).take (s.length - 9*i - 9 - 0)=s.take (s.length - 9*(i+1)):=by
     rw[gb,List.take_take];congr 1;omega
    rw[w]at j;exact χ (ih (i+1) u r (by omega) (by omega) (by omega) j (hB _ _ _ _ e b4)) (ρ.rf U)
   ·exact bZ U<|δ<|ah U U<|Γ ⟨_,rfl,Or.inr e⟩
 refine χ (key _ 0 h n rfl (by omega) d ?_ h0) (ρ.rf U);rw[a,jx,mF,eN]
def ajk(a:Cd C){s:S}(hlen:s.length<1000000)(b:∀h' n',Ext h n h' n'->n'.num=n.num+1->h' n=some (.c [st s] 9 0)->Q (.f 326 [] [.p n 0]) h' n'):ν C (.f 296 [] []) [st s] h n Q:=by refine ν.go a.f296 U ?_;refine ε<|cR U U U <| λh1 n1 d e g=>γ U<|δ ?_;refine ε<|rC U U<|γ U<|δ (Γ ⟨_,rfl,b h1 n1 g d e⟩)
def ajl{k:Nat}(h:k<=9):10 ^ k<=1000000000:=by have:10 ^ k<=10 ^ 9:=vK (by omega) h;simpa using this
section
variable {x2 x4:V}
def ajm{c:S}(t:c.length<=9)(a:∀x∈c,fP x=true){b b5:K}{h0:Hf}{n0:K}(f:n0.num<=b.num){Q1:Ex->Env->Hf->K->Prop}
 (g:∀E' h' n',Ext h0 n0 h' n'->ρ [(k2,x2),(k4,x4),(k5,.p b5 0),(k7,.i .u32 (dec c:Nat))] E'->Q1 .normal E' h' n'):
 ∀(m i:Nat) (h:Hf) (n:K),c.length - i=m->i<=c.length->h b=some (.it c.length (aT c) i)->Ext h0 n0 h n->WC C abq [(k2,x2),(k4,x4),(k5,.p b5 0),(k7,.i .u32 (dec (c.take i):Nat)),(A1,.p b 0)] h n (blk 2 Q1):=by
 intro m
 induction m with
 | zero=>
  intro i h n hm hi hb e;have:i=c.length:=by omega
  subst this;refine ax ?_;refine ε<|yt U hb (by omega)<|bF U U<|δ ?_;refine θ<|ae U U<|aJ (g _ _ _ e ⟨rfl,rfl,rfl,?_,trivial⟩);rw[eN];rfl
 | succ m ih=>
  intro i h n hm hi hb e;have d:i<c.length:=by omega
  have u:=wO (a c[i] (bK _));have j:dec (c.take (i+1))=10*dec (c.take i)+(c[i].toNat - 48):=by rw[fL d];exact Ry 0 _ _
  have v:dec (c.take i)<10 ^ i:=by
   have:=dec_lt (s:=c.take i) (λx k=>a x (qX k));have kA:(c.take i).length=i:=by simp;omega
   rw[kA]at this;exact this
  have hp:10 ^ i<=10 ^ 8:=vK (by omega) (by omega);refine ax ?_;refine ε<|Ec U hb (by omega) <| λr w h1 R l b1=>bF U U<|δ ?_;refine θ<|ah U U<|Ω<|aj ?_;obtain⟨o,q⟩:r=(c[i]'d).toNat/\w=1:=R.lo (by omega);subst o;subst q;refine ε<|bF U U<|γ U<|δ ?_;generalize y:dec (c.take i)=D at*;refine aA<|γ U<|uz U U (show(10:Int)*(D:Nat)=((10*D:Nat):Int) by omega) ⟨by omega,by omega⟩<|γ U<|jR U U (show((c[i].toNat:Nat):Int) - 48=((c[i].toNat - 48:Nat):Int) by omega) ⟨by omega,by omega⟩<|kS U ⟨by omega,by omega⟩<|gT U U (show((10*D:Nat):Int)+((c[i].toNat - 48:Nat):Int)=((10*D+(c[i].toNat - 48):Nat):Int) by omega) ⟨by omega,by omega⟩<|γ U<|δ ?_;rw[←j];exact χ (ih (i+1) h1 n (by omega) (by omega) l (e.ab b1 f)) (ρ.rf U)
end
def SQ{E:Env}{k k':K}{v:V}{x:Bool}(h1:lk E k=some (.a [v]))(c:v.one=true)(d:lk E k'=some (.b x)):gq E [.ns,.b false] [(0,1,.t k),(1,1,.t k')]=some [v,.b x]:=by simp only[gq,ge,h1,d,V.cells,dy,jy,aD,c,cL,over];rfl
def ajn(o:Cd C){v:V}{l:List Nat}{c:Bool}(hv:aF h n .u32 v l)(hlen:l.length<1000000)(q:∀h' n',Ext h n h' n'->Q (.a [v,.b (c&&!decide (l.length=0))]) h' n'):ν C (.f 297 [] []) [.a [v],.b c] h n Q:=by
 refine ν.go o.f297 U ?_;refine ε<|cR U U (en hv.one) <| λh1 n1 x t u=>bA <| λh2 d y r s=>δ ?_;have x2:=u.trans s;have c2:Cl h2 d n [v] 297:=Cl.ext ⟨by omega,t⟩ s;have l2:∀{h' n'},Ext h2 d h' n'->bj h' true 1 (.p n 0)=some (.a [v]):=λe=>bc (c2.ext e).2 rfl;have g:=hv.ext x2;have be:=kl (g.below (φ _));have i:=km (κ.cH g);cases c with
 | true=>
  refine cX<|aC U (l2 (Ext.refl _ _)) be i<|ak U<|ak U<|aR U (rfl)<|aC U (l2 (Ext.refl _ _)) be i<|aR U (rfl)<|aY U U<|BT o g hlen <| λz w j=>aR U (rfl)<|nQ U<|yp U (rfl) U<|qi (SQ rfl hv.one U)<|eT U U ((j.2 n1 (by omega)).trans r) (cj rfl rfl (iz hv.one U)) <| λk m b4=>bU (⟨⟨ω (by simp[Nat.testBit]),ω (by simp[Nat.testBit]),trivial⟩,⟨ω (by simp[Nat.testBit]),bH (l2 (Ext.refl _ _)) (l2 j),trivial⟩,trivial⟩) ?_;refine Γ ⟨_,jE rfl (bc m rfl),?_⟩;exact q k w ((x2.trans j).ab b4 (by omega))
 | false=>
  refine cX<|aC U (l2 (Ext.refl _ _)) be i<|ak U<|ak U<|dN U (rfl)<|dN U (rfl)<|dN U (rfl)<|pz U (rfl) U<|qi (SQ rfl hv.one U)<|eT U U r (cj rfl rfl (iz hv.one U)) <| λk m b4=>bU (⟨⟨ω (by simp[Nat.testBit]),trivial⟩,trivial⟩) ?_;refine Γ ⟨_,jE rfl (bc m rfl),?_⟩;exact q k d (x2.ab b4 (by omega))
end
section
variable {C:Nat->Option aI}{h:Hf}{n:K}{Q:V->Hf->K->Prop}
def ajo{s:S}{j:Nat}(hj:9*j<=s.length):chunk s j++s.drop (s.length - 9*j)=s.drop (s.length - 9*(j+1)):=by
 unfold chunk;have e:s.length - 9*(j+1)=s.length - 9*j - 9:=by omega
 rw[e];have h2:s.length - 9*j - 9<=(s.take (s.length - 9*j)).length:=by simp
 rw[←List.drop_append_of_le_length h2,xI]
def ajp(s:S)(j:Nat):(chunk s j).length<=9:=by unfold chunk;simp;omega
def ajq{s:S}{j:Nat}:∀c∈chunk s j,c∈s:=λc a=>qX (xK a)
def SR(r:Cd C){s:S}(hlen:s.length<1000)(hd:∀c∈body s,fP c=true)
 (hQ:∀v l h' n',Ext h n h' n'->aF h' n' .u32 v l->dC Bg l->l.length<=s.length->val Bg l=dec (body s)->(v=.ns\/n.num<=v.blk.num)->Q (.a [v,.b (isNeg s&&!decide (l.length=0))]) h' n'):ν C (.f 251 [] []) [st s] h n Q:=by
 have eS:=Bo s;refine ν.go r.f251 U ?_;refine ε<|bA <| λh1 n1 cA a1 e1=>δ ?_;refine ε<|γ U<|ψ U U<|Sn r<|γ U<|bF U U<|bF U U<|γ U<|γ U<|δ ?_;have c2:Cl h1 n1 n [.ns,.b false] 299:=⟨by omega,a1⟩;generalize AQ:body s=t at*;generalize isNeg s=ng at*;refine ε<|bA <| λh2 n2 dS a2 H=>δ ?_;have c5:Cl h2 n2 n1 [.ns] 295:=⟨by omega,a2⟩;refine θ<|ε<|γ U<|ψ U U<|ajk r (by omega) <| λh3 u W gJ a3=>δ ?_;have x3:Ext h1 n1 h3 u:=H.trans W;let I:Nat->Hf->K->Prop:=λj h' n'=>∃vs l,Cl h' n' n1 [vs] 295/\Gr h1 n1 h' n' 342 1 vs l.length (nC .u32 l)/\l.length=j/\Sm Bg l/\val Bg l=dec (t.drop (t.length - 9*j))/\(vs=.ns\/u.num<vs.blk.num);refine aj<|aaR U (ajj r (by omega)) (by omega) a3 I (λ_ _ _=>False) ?_ ?_ ?_ ?_ ?_ ?_ ?_ ?_
 ·rintro j h1 m1 h' n' ⟨vs,l,g1,e,k,m,g,d⟩ ex;exact⟨vs,l,g1.ext ex,e.on ex,k,m,g,d⟩
 ·rintro j h1 m1 h' ⟨vs,l,g1,e,k,m,g,d⟩ o;exact⟨vs,l,g1.ab o (by omega),e.ab o (by omega) (d.imp id λh=>by omega),k,m,g,d⟩
 ·rintro j h1 m1 h' ⟨vs,l,g1,e,k,m,g,d⟩ o;exact⟨vs,l,g1.ab o (by omega),e.ab o (by omega) (d.imp id λh=>by omega),k,m,g,d⟩
 ·intro j hj;rw[Kx];rfl
 ·intro h' o;have Mp:u.succ.num=u.num+1:=K.eF u;refine⟨.ns,[],((c5.ext W).ab o (by omega)).up (by omega),Gr.ns ((x3.ab o (by omega)).succ),rfl,Sm.nil,?_,Or.inl U⟩;rw[jx,mF,jw];rfl
 ·rintro j hj h4 J E1 jZ ⟨vs,l,g1,e,k,m,g,d⟩ L;have bV:j<(t.length+8) / 9:=by rw[Fa]at hj;exact hj
  rw[Kx]at L;simp only[jB,lK]at L;subst L;have X:=ajp t j;have Y:∀x∈chunk t j,fP x=true:=λx q=>hd x (ajq x q);have hD1:dec (chunk t j)<Bg:=by have h1:=dec_lt Y;have h2:=ajl X;exact ep h1 h2
  have hD2:dec (t.drop (t.length - 9*(j+1)))=dec (chunk t j)*Bg ^ j+dec (t.drop (t.length - 9*j)):=by rw[←ajo (by omega),EG];congr 2;rw[qZ,show t.length - (t.length - 9*j)=9*j by omega,Nat.pow_mul]
  refine aA<|γ U<|δ ⟨rfl,φ _,rfl,rfl,λM b5=>?_⟩;have g15:=g1.ab b5 (by omega);have g25:Gr h1 n1 M J 342 1 vs l.length (nC .u32 l):=e.ab b5 (by omega) (d.imp id λh=>by omega);generalize chunk t j=ck at*;refine aj<|ε<|γ U<|δ ?_;refine θ<|ε<|γ U<|Eb U <| λZ B jl a6 y=>δ ?_;refine aj<|χ (ajm (x2:=.p n 0) (x4:=.b ng) (b5:=n1) X Y (b:=J) (h0:=M) (n0:=J) (φ _) ?_ _ 0 Z B rfl (by omega) a6 y) (ρ.rf U);intro E7 N n7 z hE;refine bS hE ?_;have O:=g15.ext z;have E:=g25.on z;have z7:=z.1;have z1:=O.1;generalize dec ck=D at*;have at7:=E.lt;refine aA<|ξ U (O.ld U _)<|γ U<|eg U <| λh8 n8 sY a8 w=>jF U ((E.on w).own) U (κ.whole (len:=1) (by omega) a8 rfl) (by omega) (by omega) (by omega) (by omega) U ((E.on w).lt) <| λv9 h9 n9 P Wx F9 F=>aH U U ((F _ (by omega) (d.imp id λh=>by omega)).trans (O.ext w).2) (mR P.cells P.one U) <| λgP oE iy=>δ ?_;have g29:=(E.on w).app P Wx F9 F;have R:bm n1 h9 gP:=iy;have H:nC .u32 l++[V.i .u32 (D:Nat)]=nC .u32 (l++[D]):=by rw[HY];rfl
  rw[H]at g29;have k9:v9.blk.num=n8.num:=by rw[Wx]
  have dO:(l++[D]).length=l.length+1:=by simp
  refine⟨by omega,?_,?_,v9,l++[D],⟨by omega,oE⟩,?_,by rw[dO,k],?_,?_,Or.inr (by omega)⟩
  ·rw[R _ (by omega),F _ (by omega) (d.imp id λh=>by omega),w.2 _ (by omega),z.2 _ (by omega)]
  ·rw[R _ (by omega),F _ (by omega) (d.imp id λh=>by omega),w.2 _ (by omega),z.2 _ (by omega)]
  ·rw[dO];exact g29.ab R (φ _) (Or.inr (by omega))
  ·intro x q;rcases gQ.1 q with q | q
   ·exact m x q
   ·simp at q;rw[q];exact hD1
  ·rw[uG,hD2,g,k];simp only[val,jx,hJ];rw[cT D,nF]
 ·rintro h' n' qL ⟨vs,l,g1,e,k,m,g,d⟩;rw[Fa]at k g;rw[show t.length - 9*((t.length+8) / 9)=0 by omega,gb]at g;have il:aF h' n' .u32 vs l:=e.sl;have d2:=c2.ext e.ext;refine ε<|ξ U (g1.ld U _)<|ψ U U<|uM r (φ _) il (by omega) <| λT M n5 G A C6 oi=>ji (mW rfl A.cells A.one)<|γ U<|ψ U U<|ajn r (A.up G.1) (by have:=wN l;omega) <| λZ B y=>aH U U (((d2.ext G).ext y).2) (cj rfl rfl (iz A.one U)) <| λN a7 b7=>δ ?_;refine Γ ⟨_,jE rfl (bc a7 rfl),?_⟩;have ie:=wN l;have x7:Ext h n N B:=(((e1.trans e.ext).trans G).trans y).ab b7 (φ _);have Ks:T=.ns\/u.num<T.blk.num:=d.imp oi λh=>by rw[C6];exact h
  exact hQ T (cG l) N B x7 (((A.up G.1).ext y).ab b7 (Ks.imp id λh=>by omega)) (pB m) (by omega) (by rw[nU,g]) (Ks.imp id λh=>by omega)
 ·rintro ex h' n' oF qL hf;exact hf.elim
def SS(x:Bool):(V.b x).one=true:=rfl
def ajs{E:Env}{k k':K}{v w:V}{x y:Bool}(h1:lk E k=some (.a [v,.b x]))(c:v.one=true)(d:lk E k'=some (.a [w,.b y]))(e:w.one=true):gq E [.ns,.b false,.ns,.b false] [(0,2,.t k),(2,2,.t k')]=some [v,.b x,w,.b y]:=by simp only[gq,ge,h1,d,V.cells,dy,jy,aD,c,e,cL,over,SS];rfl
def ajt{v w:V}{x y:Bool}(h1:v.one=true)(h2:w.one=true):aD [v,.b x,w,.b y]=true:=by simp only[aD,h1,h2,SS];rfl
def aju(c:Cd C){s:S}(hlen:s.length<1000000)(d:∀h' n',Ext h n h' n'->Q (.i .i64 (lS s)) h' n'):ν C (.f 188 [] []) [st s] h n Q:=by
 refine ν.go c.f188 U ?_;refine ε<|γ U<|δ ?_;cases k:cutAt s with
 | none=>
  have hs:jU s=none:=by unfold jU;rw[k]
  have hv:oN s=.u [st s,st [],.b false]:=by unfold oN;rw[k]
  have key:∀{Q:V->Hf->K->Prop},Q (.u [st s,st [],.b false]) h n->ν C (.f 221 [] []) [st s,st [47]] h n Q:=λd=>Sq c hlen (by rw[hv];exact d);refine ε<|γ U<|ψ U U<|key<|γ U<|bF U U<|bF U U<|bF U U<|γ U<|γ U<|γ U<|δ ?_;refine θ<|ε<|γ U<|bZ U<|γ U<|μ U (rfl)<|μ U (rfl)<|aU U (rfl) U<|δ ?_;refine ah U U ?_;refine ε<|γ U<|δ (Γ ⟨_,rfl,by have:=d h n (Ext.refl h n);rw[lS,hs]at this;exact this⟩)
 | some T=>
  obtain⟨p,q⟩:=T;have hv:oN s=.u [st p,st q,.b true]:=by unfold oN;rw[k]
  have W:=RA k;have key:∀{Q:V->Hf->K->Prop},Q (.u [st p,st q,.b true]) h n->ν C (.f 221 [] []) [st s,st [47]] h n Q:=λd=>Sq c hlen (by rw[hv];exact d);refine ε<|γ U<|ψ U U<|key<|γ U<|bF U U<|bF U U<|bF U U<|γ U<|γ U<|γ U<|δ ?_;refine θ<|θ<|aA<|γ U<|bZ U<|γ U<|ζ U U<|γ U<|ζ U U<|ψ U U<|aim c<|aL U U U<|δ ?_;by_cases r:gi q=true
  ·have hs:jU s=none:=by unfold jU;rw[k];simp only[r,if_true]
   refine ah U r ?_;refine ε<|γ U<|δ (Γ ⟨_,rfl,by have:=d h n (Ext.refl h n);rw[lS,hs]at this;exact this⟩)
  ·have hs:jU s=some (p,q):=by unfold jU;rw[k];simp only[r,if_false];rfl
   simp only[lS,hs]at d;refine ae U (by simpa using r)<|Ω ?_;refine θ<|ε<|γ U<|ψ U U<|BR c (by omega) <| λh1 n1 X=>γ U<|ψ U U<|BR c (by omega) <| λh2 n2 Y=>eg U <| λG H gJ Z e3=>ψ U U<|Bq c.f250 (l:=[fm p,fm q]) (κ.whole (len:=2) (by omega) Z rfl) (by simp)<|γ U<|δ ?_;rw[BD];have x3:=(X.trans Y).trans e3;refine ε<|γ U<|dR U U<|δ ?_;by_cases hp:fm p=0
   ·by_cases o:fm q=0
    ·refine ae U (by simp[hp,o])<|Ω ?_;simp only[hp,o,ne_eq,not_true_eq_false,if_false]at d;obtain⟨fp,lp⟩:=yA hp;obtain⟨I,lq⟩:=yA o;have W:=ES hp;have F4:=ES o;obtain⟨dp,_⟩:=Bm fp;obtain⟨dq,_⟩:=Bm I;have hz:=Ji I;have v:∀(b:Bool) h' n',Ext G H h' n'->b=decide (isNeg q=true\/dec (body q)=0\/Nat.gcd (dec (body p)) (dec (body q))≠1)->Q (.i .i64 (if b then 1 else 0)) h' n':=by
      intro b h' n' e hb;have:=d h' n' (x3.trans e);rw[hb];by_cases k:(isNeg q=true\/dec (body q)=0\/Nat.gcd (dec (body p)) (dec (body q))≠1)
      ·rw[ao k]at this;simpa[k]using this
      ·rw[Θ k]at this;simpa[k]using this
     refine ε<|γ U<|ψ U U<|SR c (by omega) dp <| λv4 l4 h4 n4 J w r4 m4 t4 s4=>γ U<|ψ U U<|SR c (by omega) dq <| λv5 l5 h5 L x y M m5 N s5=>ji (ajs rfl w.one U y.one)<|bA <| λh6 z jl a6 O=>aH U U a6 (cj rfl rfl (ajt w.one y.one)) <| λA a7 b7=>δ ?_;have D:Ext G H A z:=((J.trans x).trans O).ab b7 (by have:=J.1;have:=x.1;omega);have P:Ext h5 L A z:=O.ab b7 (φ _);have c7:Cl A z L [v4,.b (isNeg p&&!decide (l4.length=0)),v5,.b (isNeg q&&!decide (l5.length=0))] 302:=⟨by omega,a7⟩;have i47:=(w.ext x).ext P;have E:=y.ext P;have R:l5.length=0↔dec (body q)=0:=by rw[←N,val_zero (B:=Bg) M.2 (by decide)];exact nD
     have ll4:l4.length<400:=by omega
     have ll5:l5.length<400:=by omega
     by_cases h0:dec (body q)=0
     ·have a:=R.2 h0;have j:isNeg q=false:=by rw[hz.1 h0];rfl
      refine ε<|σ U<|σ U<|ξ U (cE c7.2 rfl _)<|γ U<|ζ U (by simp[a])<|σ U<|ζ U (by simp[a])<|σ U<|ζ U (by simp[a])<|ξ U (bc c7.2 rfl)<|ζ U (by simp[a])<|ψ U U<|BT c E (by omega) <| λh8 n8 m=>aL U (by simp[a]) U<|γ U<|μ U (by simp[a])<|μ U (by simp[a])<|μ U (by simp[a])<|μ U (by simp[a])<|μ U (by simp[a])<|μ U (by simp[a])<|μ U (by simp[a])<|μ U (by simp[a])<|μ U (by simp[a])<|aU U (by simp[a]) U<|ψ U U<|mU c.f248<|γ U<|δ ?_;refine Γ ⟨_,rfl,v _ _ _ (D.trans m) ?_⟩;simp[h0]
     ·have a:¬ l5.length=0:=λe=>h0 (R.1 e);cases j:isNeg q with
      | true=>
       refine ε<|σ U<|σ U<|ξ U (cE c7.2 rfl _)<|γ U<|μ U (by simp[a,j])<|μ U (by simp[a,j])<|μ U (by simp[a,j])<|μ U (by simp[a,j])<|aU U (by simp[a,j]) U<|γ U<|μ U U<|μ U U<|μ U U<|μ U U<|μ U U<|μ U U<|μ U U<|μ U U<|μ U U<|aU U U U<|ψ U U<|mU c.f248<|γ U<|δ ?_;refine Γ ⟨_,rfl,v _ _ _ D ?_⟩;simp[j]
      | false=>
       refine ε<|σ U<|σ U<|ξ U (cE c7.2 rfl _)<|γ U<|ζ U (by simp[a,j])<|σ U<|ζ U (by simp[a,j])<|σ U<|ζ U (by simp[a,j])<|ξ U (bc c7.2 rfl)<|ζ U (by simp[a,j])<|ψ U U<|BT c E (by omega) <| λh8 n8 m=>aL U (by simp[a,j]) U<|γ U<|ζ U (by simp[a])<|σ U<|ζ U (by simp[a])<|σ U<|ζ U (by simp[a])<|ξ U (bc (c7.ext m).2 rfl)<|ζ U (by simp[a])<|σ U<|ζ U (by simp[a])<|σ U<|ζ U (by simp[a])<|ξ U (bc (c7.ext m).2 rfl)<|ζ U (by simp[a])<|ψ U U<|aji c ll4 ll5 r4 M (i47.ext m) (E.ext m) <| λvg g h9 n9 e9 i9 l9 r9 F=>ζ U (by simp[a])<|ψ U U<|ain c i9 (by omega) <| λgP dD fI=>ζ U (by simp[a])<|bZ U<|aL U (by simp[a]) U<|ψ U U<|mU c.f248<|γ U<|δ ?_;refine Γ ⟨_,rfl,v _ _ _ (((D.trans m).trans e9).trans fI) ?_⟩;rw[t4,N]at F;by_cases t:g=[1]
       ·have:Nat.gcd (dec (body p)) (dec (body q))=1:=by rw[←F,t];rfl
        simp[t,this,j,h0]
       ·have:¬ Nat.gcd (dec (body p)) (dec (body q))=1:=λe=>t (val_inj (B:=Bg) r9 ⟨Sm.cons (by decide) Sm.nil,λh=>by simp⟩ (by decide) (by rw[F,e];rfl));simp[t,this]
    ·refine ah U (by simp[hp,o]) ?_;simp only[hp,o,ne_eq,not_true_eq_false,if_false,not_false_eq_true,if_true]at d ⊢;refine ε<|γ U<|γ U<|δ (Γ ⟨_,rfl,d _ _ x3⟩)
   ·refine ah U (by simp[hp]) ?_;simp only[hp,ne_eq,not_false_eq_true,if_true]at d ⊢;refine ε<|γ U<|γ U<|δ (Γ ⟨_,rfl,d _ _ x3⟩)
end
section
variable {C:Nat->Option aI}{h:Hf}{n:K}{Q:V->Hf->K->Prop}
def w99(d:Cd C){x:Nd}{vv kv:V}{i:Nat}(hv:vv.one=true)(s:kv.one=true)(hl:x.name.length<1000000)(t:∀h' n',Ext h n h' n'->Q (.i .i64 (jn x)) h' n'):ν C (.f 99 [] []) [.a (kC x vv kv i)] h n Q:=by
 refine ν.go d.f99 U ?_;refine ε<|cR U U (sT x hv s) <| λh1 n1 A u v=>γ U<|δ ?_;have r:Cl h1 n1 n (kC x vv kv i) 141:=⟨by omega,u⟩;have lo:bj h1 false 1 (.p n (0+0+0))=some (.i .i64 x.op):=r.ld U _;have l:bj h1 false 1 (.p n (0+0+2))=some (st x.name):=r.ld U _;refine θ<|ε<|σ U<|σ U<|ξ U lo<|δ ?_;have m:∀(b:Bool) h2 g,Ext h1 n1 h2 g->jn x=(if b then 6 else 0)->Q (.i .i64 (if b then 6 else 0)) h2 g:=λb h2 g e he=>by have:=t h2 g (v.trans e);rw[he]at this;exact this
 refine aj<|ε<|aS U U<|γ U<|δ ?_;refine cm U (λj=>?_) (λj=>?_)
 ·simp only[aW]at j;by_cases c:fm x.name=0
  ·refine ε<|σ U<|σ U<|ξ U l<|ψ U U<|BR d hl <| λh2 g k=>dR U U<|γ U<|μ U (by simp[c])<|μ U (by simp[c])<|μ U (by simp[c])<|μ U (by simp[c])<|μ U (by simp[c])<|aL U (by simp[c]) U<|ψ U U<|mU d.f42<|γ U<|δ ?_;exact Γ ⟨_,rfl,m _ _ _ k (by simp[jn,j,isNumeral,c])⟩
  ·have w:∀{h' n'},Ext h1 n1 h' n'->bj h' false 1 (.p n (0+0+2))=some (st x.name):=λe=>(r.ext e).ld U _;refine ε<|σ U<|σ U<|ξ U l<|ψ U U<|BR d hl <| λh2 g k=>dR U U<|γ U<|ζ U (by simp[c])<|σ U<|ζ U (by simp[c])<|σ U<|ζ U (by simp[c])<|ξ U (w k)<|ζ U (by simp[c])<|ψ U U<|aju d hl <| λB D y=>ζ U (by simp[c])<|dR U U<|aU U (by simp[c]) U<|ψ U U<|mU d.f42<|γ U<|δ<|Γ ⟨_,rfl,m _ _ _ (k.trans y) ?_⟩;by_cases z:lS x.name=0<;>simp[jn,j,isNumeral,c,z]
 simp only[cg]at j;refine ε<|aS U U<|γ U<|δ ?_;refine cm U (λo=>?_) (λo=>?_)
 ·simp only[aW]at o;refine ε<|σ U<|σ U<|ξ U l<|ψ U U<|Wn d (by omega) <| λh2 g k=>bZ U<|ψ U U<|mU d.f42<|γ U<|δ ?_;refine Γ ⟨_,rfl,m _ _ _ k ?_⟩;cases hp:lf x.name<;>simp[jn,o,hp]
 simp only[cg]at o;refine ε<|aS U U<|γ U<|δ ?_;refine cm U (λq=>?_) (λq=>Ω ?_)
 ·simp only[aW]at q;refine ε<|σ U<|σ U<|ξ U l<|eC (b:=[]) U U<|ψ U U<|mU d.f42<|γ U<|δ ?_;refine Γ ⟨_,rfl,m _ _ _ (Ext.refl _ _) ?_⟩;by_cases hp:x.name=[]<;>simp[jn,q,hp]
 simp only[cg]at q;refine ε<|σ U<|σ U<|ξ U l<|rA (b:=[]) U U<|ψ U U<|mU d.f42<|γ U<|δ ?_;refine Γ ⟨_,rfl,m _ _ _ (Ext.refl _ _) ?_⟩;by_cases hp:x.name=[]<;>simp[jn,j,o,q,hp]
section
variable {x:Nd}{vv kv:V}{b:K}{pl:Nat}
def ajw(j:Cd C){h0:Hf}{n0:K}(hv:du h0 n0 vv x.vars)(N:x.vars.length<1000)(D:∀v∈x.vars,v.1.length<10000000)(hb:Cl h0 n0 b (kC x vv kv pl) 141):
 ∀(m i:Nat) (h:Hf) (n:K),x.vars.length - i=m->i<=x.vars.length->Ext h0 n0 h n->(∀h' n',Ext h0 n0 h' n'->Q (.i .i64 (uL x.vars m i)) h' n')->WC C abI [(k1,.p b 0),(k40,vv),(k41,iN x.vars.length),(k42,iN i)] h n (blk 0 (sq C abJ (fq [.t k2] Q))):=by
 intro m
 induction m with
 | zero=>
  intro i h n hm hi e c;have:i=x.vars.length:=by omega
  subst this;refine ax ?_;refine ε<|ay U U<|δ ?_;refine θ<|ae U (by simp)<|aJ ?_;refine ε<|γ U<|δ (Γ ⟨_,rfl,c _ _ e⟩)
 | succ m ih=>
  intro i h n hm hi e c;have o:i<x.vars.length:=by omega
  simp only[uL,df o]at c;have E:=D _ (bK o);have u:=hv.ext e;have O:=hb.1;have P:=e.1;refine ax ?_;refine ε<|ay U U<|δ ?_;refine θ<|ah U (by simp<;>omega)<|Ω ?_;refine θ<|aj<|ε<|γ U<|aB U U u o<|ξ U (u.jP o)<|bA <| λh1 n1 R z A=>γ U<|aH U U z U <| λh2 B b2=>δ ?_;have w:Ext h n h2 n1:=A.ab b2 (φ _);have c4:Cl h2 n1 n [st x.vars[i].1,st x.vars[i].2] 64:=⟨by omega,B⟩;have F:Cl h2 n1 b (kC x vv kv pl) 141:=(hb.ext e).ext w;have q:=u.ext w;have g:∀{H:Hf},Ag n1 h2 H->bj H false 1 (.p n (0+0))=some (st x.vars[i].1):=λag=>(c4.ext (ag.x (φ _))).ld U _;have lv:∀{H:Hf},Ag n1 h2 H->bj H false 1 (.p b (0+0+3))=some vv:=λag=>(F.ext (ag.x (φ _))).ld U _;have be:=q.below (φ _);have G:=κ.cH q;clear z B b2 A;refine cX<|bG U<|aC U (g (Ag.refl _ _)) U (fg _ _)<|aY U U<|Wn j E <| λS T a=>nQ U<|aY U U<|mU j.f42<|bG U<|bG U<|aC U (lv a.ag) (q.below a.1) G<|ak U<|A7 U (du.ext q a) U U (by omega) ((show i<=_ by omega)) <| λW I l4=>bG U<|aC U (g a.ag) U (fg _ _)<|aY U U<|sU j (du.sub I (by omega)) (by simp<;>omega) <| λX f d=>aY U U<|mU j.f42<|lP U <| λr s Y J L=>aY U U<|Bq j.f41 (l:=[if (!lf x.vars[i].1) then 6 else 0,if decide (x.vars[i].1∈((x.vars.drop 0).take (i - 0)).map Prod.fst) then 7 else 0]) (κ.whole (len:=2) (by omega) J rfl) (by simp)<|ak U<|bU (⟨⟨ω (by simp[Nat.testBit]),ω (by simp[Nat.testBit]),ω (by simp[Nat.testBit]),bH (g (a.ag.hp f none (by have:=a.1;have:=d.1;omega))) (g (a.ag.hp f none (by have:=a.1;have:=d.1;omega))),bH (g ((Ag.refl _ _).hp f none (by have:=a.1;have:=d.1;omega))) (g (a.ag.hp f none (by have:=a.1;have:=d.1;omega))),trivial⟩,⟨ω (by simp[Nat.testBit]),ω (by simp[Nat.testBit]),ω (by simp[Nat.testBit]),bH (lv (a.ag.hp f none (by have:=a.1;have:=d.1;omega))) (lv (a.ag.hp f none (by have:=a.1;have:=d.1;omega))),bH (lv ((Ag.refl _ _).hp f none (by have:=a.1;have:=d.1;omega))) (lv (a.ag.hp f none (by have:=a.1;have:=d.1;omega))),trivial⟩,⟨ω (by simp[Nat.testBit]),ω (by simp[Nat.testBit]),ω (by simp[Nat.testBit]),ω (by simp[Nat.testBit]),ω (by simp[Nat.testBit]),trivial⟩,trivial⟩) ?_
  rw[BD,gb,mF];have M:Ext h2 n1 r s:=(a.trans d).trans L;have y:=(e.trans w).trans M;refine ε<|γ U<|dR U U<|δ ?_;cases hp:lf x.vars[i].1 with
  | false=>
   rw[hp]at c;refine ah U (by simp) ?_;refine ε<|γ U<|γ U<|δ (Γ ⟨_,rfl,?_⟩);have:=c r s y;simp at this ⊢;exact this
  | true=>
   rw[hp]at c;by_cases k:x.vars[i].1∈(x.vars.take i).map Prod.fst
   ·rw[Θ (by simp),ao k]at c;refine ah U (by rw[nE k];simp) ?_;refine ε<|γ U<|γ U<|δ (Γ ⟨_,rfl,?_⟩);have:=c r s y;rw[nE k];simp;exact this
   ·rw[Θ (by simp),Θ k]at c;refine ae U (by rw[eK k];simp)<|Ω ?_;refine aA<|aX U U ⟨by omega,by omega⟩<|γ U<|δ ?_;exact χ (ih (i+1) r s (by omega) (by omega) y c) (ρ.rf U)
def ajx(k:Cd C)(hv:du h n vv x.vars)(o:kv.one=true)(q:x.vars.length<1000)(r:∀v∈x.vars,v.1.length<10000000)(c:∀h' n',Ext h n h' n'->Q (.i .i64 (jo x)) h' n'):ν C (.f 100 [] []) [.a (kC x vv kv pl)] h n Q:=by
 refine ν.go k.f100 U ?_;refine ε<|cR U U (sT x (κ.one hv) o) <| λh1 n1 u s l=>γ U<|δ ?_;have hb:Cl h1 n1 n (kC x vv kv pl) 141:=⟨by omega,s⟩;have lv:bj h1 false 1 (.p n (0+0+3))=some vv:=hb.ld U _;have lo:bj h1 false 1 (.p n (0+0+0))=some (.i .i64 x.op):=hb.ld U _;have g:=hv.ext l;have go:jo x=uL x.vars x.vars.length 0->WC C Ee [(k1,.p n 0)] h1 n1 (fq [.t k2] Q):=by intro he;refine θ<|ε<|σ U<|σ U<|ξ U lv<|al U g<|γ U<|δ ?_;exact aj<|χ (ajw k g q r hb _ 0 h1 n1 rfl (by omega) (Ext.refl _ _) (λh' n' e=>by rw[mF,←he];exact c _ _ (l.trans e))) (ρ.rf U)
 have bad:jo x=5->WC C abH [] h1 n1 (sq C Ee (fq [.t k2] Q)):=by intro he;have c:=c h1 n1 l;rw[he]at c;refine ε<|γ U<|δ (Γ ⟨_,rfl,c⟩)
 by_cases j:x.op=17\/x.op=18
 ·have m:decide (x.op=17\/x.op=18)=true:=nE j;have d:∀{Q:V->Hf->K->Prop},Q (.b true) h1 n1->ν C (.f 56 [] []) [.i .i64 x.op] h1 n1 Q:=λc=>zq k.f56 (by rw[m];exact c);by_cases h1:x.vars.length<1
  ·refine θ<|ε<|σ U<|σ U<|ξ U lo<|ψ U U<|d<|bZ U<|γ U<|μ U (rfl)<|μ U (rfl)<|μ U (rfl)<|μ U (rfl)<|μ U (rfl)<|aL U (rfl) U<|γ U<|ζ U U<|σ U<|ζ U U<|σ U<|ζ U U<|ξ U lo<|ζ U U<|ψ U U<|d<|ζ U U<|γ U<|ζ U (rfl)<|σ U<|ζ U (rfl)<|σ U<|ζ U (rfl)<|ξ U lv<|ζ U (rfl)<|al U g<|ζ U (rfl)<|ay U U<|ζ U (rfl)<|γ U<|μ U (by simp<;>omega)<|μ U (by simp<;>omega)<|μ U (by simp<;>omega)<|μ U (by simp<;>omega)<|μ U (by simp<;>omega)<|ζ U (rfl)<|aU U (by simp<;>omega) U<|ζ U U<|aU U (rfl) U<|aL U U U<|δ ?_;exact ah U (by simp<;>omega)<|χ (bad (by simp only[jo,ao j,ao (Or.inl h1)])) trivial
  ·refine θ<|ε<|σ U<|σ U<|ξ U lo<|ψ U U<|d<|bZ U<|γ U<|μ U (rfl)<|μ U (rfl)<|μ U (rfl)<|μ U (rfl)<|μ U (rfl)<|aL U (rfl) U<|γ U<|ζ U U<|σ U<|ζ U U<|σ U<|ζ U U<|ξ U lo<|ζ U U<|ψ U U<|d<|ζ U U<|γ U<|ζ U (rfl)<|σ U<|ζ U (rfl)<|σ U<|ζ U (rfl)<|ξ U lv<|ζ U (rfl)<|al U g<|ζ U (rfl)<|ay U U<|ζ U (rfl)<|γ U<|ζ U (by simp<;>omega)<|σ U<|ζ U (by simp<;>omega)<|σ U<|ζ U (by simp<;>omega)<|ξ U lv<|ζ U (by simp<;>omega)<|al U g<|ζ U (by simp<;>omega)<|bC U U<|ζ U (rfl)<|aL U (by simp<;>omega) U<|ζ U U<|aU U (rfl) U<|aL U U U<|δ ?_;by_cases h2:12<x.vars.length
   ·exact ah U (by simp<;>omega)<|χ (bad (by simp only[jo,ao j,ao (Or.inr h2)])) trivial
   ·exact ae U (by simp<;>omega)<|Ω<|χ (go (by simp only[jo,ao j];rw[Θ (by omega)])) (ρ.rf U)
 ·have m:decide (x.op=17\/x.op=18)=false:=eK j;have d:∀{Q:V->Hf->K->Prop},Q (.b false) h1 n1->ν C (.f 56 [] []) [.i .i64 x.op] h1 n1 Q:=λc=>zq k.f56 (by rw[m];exact c);by_cases h2:0<x.vars.length
  ·refine θ<|ε<|σ U<|σ U<|ξ U lo<|ψ U U<|d<|bZ U<|γ U<|ζ U (rfl)<|σ U<|ζ U (rfl)<|σ U<|ζ U (rfl)<|ξ U lv<|ζ U (rfl)<|al U g<|ζ U (rfl)<|bC U U<|aU U (rfl) U<|γ U<|μ U (by simp<;>omega)<|μ U (by simp<;>omega)<|μ U (by simp<;>omega)<|μ U (by simp<;>omega)<|μ U (by simp<;>omega)<|dM U<|dM U<|dM U<|dM U<|dM U<|dM U<|dM U<|dM U<|dM U<|dM U<|dM U<|dM U<|μ U (by simp<;>omega)<|aU U (by simp<;>omega) U<|δ ?_;exact ah U (by simp<;>omega)<|χ (bad (by simp only[jo,Θ j,ao h2])) trivial
  ·refine θ<|ε<|σ U<|σ U<|ξ U lo<|ψ U U<|d<|bZ U<|γ U<|ζ U (rfl)<|σ U<|ζ U (rfl)<|σ U<|ζ U (rfl)<|ξ U lv<|ζ U (rfl)<|al U g<|ζ U (rfl)<|bC U U<|aU U (rfl) U<|γ U<|ζ U (eK (show ¬ (0:Int)<((x.vars.length:Nat):Int) by omega))<|σ U<|ζ U (eK (show ¬ (0:Int)<((x.vars.length:Nat):Int) by omega))<|σ U<|ζ U (eK (show ¬ (0:Int)<((x.vars.length:Nat):Int) by omega))<|ξ U lo<|ζ U (eK (show ¬ (0:Int)<((x.vars.length:Nat):Int) by omega))<|ψ U U<|d<|ζ U (eK (show ¬ (0:Int)<((x.vars.length:Nat):Int) by omega))<|γ U<|μ U (rfl)<|μ U (rfl)<|μ U (rfl)<|μ U (rfl)<|μ U (rfl)<|μ U (rfl)<|dM U<|dM U<|dM U<|dM U<|dM U<|μ U (rfl)<|ζ U (eK (show ¬ (0:Int)<((x.vars.length:Nat):Int) by omega))<|aL U (rfl) U<|aL U (eK (show ¬ (0:Int)<((x.vars.length:Nat):Int) by omega)) U<|δ ?_;refine ae U U<|Ω<|χ (go ?_) (ρ.rf U);have:x.vars.length=0:=by omega
   simp only[jo,Θ j,Θ h2,this];rfl
end
end
section
variable {C:Nat->Option aI}{h:Hf}{n:K}{Q:V->Hf->K->Prop}
def conn:List V:=[.s 4 1702195828,.i .i64 0,.s 4 1819242306,.f 382 [] [],.s 5 435728179558,.i .i64 0,.s 4 1819242306,.f 382 [] [],.s 0 0,.i .i64 0,.s 1 110,.f 382 [] [],.s 0 0,.i .i64 0,.s 1 115,.f 382 [] [],.s 0 0,.i .i64 (-1),.s 1 115,.nf,.s 3 7630702,.i .i64 1,.s 4 1819242306,.f 382 [] [],.s 3 6581857,.i .i64 (-1),.s 4 1819242306,.f 382 [] [],.s 2 29295,.i .i64 (-1),.s 4 1819242306,.f 382 [] [],.s 2 15933,.i .i64 2,.s 4 1819242306,.f 382 [] [],.s 3 6710889,.i .i64 2,.s 4 1819242306,.f 382 [] [],.s 3 6648937,.i .i64 3,.s 1 115,.f 383 [] [],.s 1 61,.i .i64 2,.s 4 1819242306,.f 384 [] [],.s 1 43,.i .i64 2,.s 1 110,.f 385 [] [],.s 1 45,.i .i64 2,.s 1 110,.f 385 [] [],.s 1 42,.i .i64 2,.s 1 110,.f 385 [] [],.s 1 60,.i .i64 2,.s 4 1819242306,.f 385 [] [],.s 2 15676,.i .i64 2,.s 4 1819242306,.f 385 [] [],.s 6 119212747157350,.i .i64 (-2),.s 4 1819242306,.f 386 [] [],.s 6 126943989692517,.i .i64 (-2),.s 4 1819242306,.f 387 [] [],.s 1 33,.i .i64 (-2),.s 1 45,.nf]
def Gl(h:Hf)(n:K):Prop:=k0.num<n.num/\h k0=some (.r conn)
def Gl.ext{h':Hf}{n':K}(a:Gl h n)(e:Ext h n h' n'):Gl h' n':=⟨ep a.1 e.1,by rw[e.2 _ a.1];exact a.2⟩
def Gl.ld(a:Gl h n){o:Nat}{v:V}(hv:nth conn o=some v)(sz:Nat):bj h false sz (.p k0 o)=some v:=by simp only[bj,gS,a.2,O.row,cond_false];exact hv
def m7(o:Nat):S:=if o=2\/o=12\/o=13\/o=14 then [110] else if o=3\/o=4\/o=10 then [115] else if o=19 then [45] else yB
def uO(o:Nat):Int:=if o=0\/o=1\/o=2\/o=3 then 0 else if o=4\/o=6\/o=7 then -1 else if o=5 then 1 else if o=10 then 3 else if o=17\/o=18\/o=19 then -2 else 2
def SU{o:Nat}(h:o<20):nth conn (0+o*4+2)=some (st (m7 o))/\nth conn (0+o*4+1)=some (.i .i64 (uO o)):=by
 have:o=0\/o=1\/o=2\/o=3\/o=4\/o=5\/o=6\/o=7\/o=8\/o=9\/o=10\/o=11\/o=12\/o=13\/o=14\/o=15\/o=16\/o=17\/o=18\/o=19:=by omega
 rcases this with rfl | rfl | rfl | rfl | rfl | rfl | rfl | rfl | rfl | rfl | rfl | rfl | rfl | rfl | rfl | rfl | rfl | rfl | rfl | rfl<;>exact⟨rfl,rfl⟩
def xa(x:Nd):Bool:=
 if m7 x.op.toNat=[110] then !decide (x.sort=lU\/x.sort=mV)||(decide (x.op=2)&&(decide (fm x.name=0)!=decide (x.sort=lU)))
 else if m7 x.op.toNat=[115] then decide (x.sort=[]) else if m7 x.op.toNat=[45] then !decide (x.sort=[]) else !decide (x.sort=m7 x.op.toNat)
def ajy(g:Cd C){x:Nd}{vv kv:V}{i:Nat}(w:Gl h n)(F:0<=x.op/\x.op<20)(hv:vv.one=true)(y:kv.one=true)(hl:x.name.length<1000000)(j:∀h' n',Ext h n h' n'->Q (.i .i64 (if xa x then 13 else 0)) h' n'):ν C (.f 101 [] []) [.a (kC x vv kv i)] h n Q:=by
 obtain⟨o,u⟩:∃o:Nat,x.op=(o:Nat):=⟨x.op.toNat,by omega⟩;have z:o<20:=by omega
 have A:x.op.toNat=o:=by omega
 refine ν.go g.f101 U ?_;refine ε<|cR U U (sT x hv y) <| λh1 n1 G B v=>γ U<|δ ?_;have s:Cl h1 n1 n (kC x vv kv i) 141:=⟨by omega,B⟩;have lo:∀{h' n'},Ext h1 n1 h' n'->bj h' false 1 (.p n (0+0+0))=some (.i .i64 (o:Nat)):=λe=>by rw[←u];exact(s.ext e).ld U _
 have ls:∀{h' n'},Ext h1 n1 h' n'->bj h' false 1 (.p n (0+0+1))=some (st x.sort):=λe=>(s.ext e).ld U _;have D:∀{h' n'},Ext h1 n1 h' n'->bj h' false 1 (.p n (0+0+2))=some (st x.name):=λe=>(s.ext e).ld U _;have E:=w.ext v;have c:=Ext.refl h1 n1;refine ε<|γ U<|δ ?_;refine θ<|ε<|σ U<|σ U<|ξ U (lo c)<|Ed U U (by omega)<|σ U<|ξ U (E.ld (SU z).1 _)<|γ U<|δ ?_;have fin:∀(b:Bool) h2 d,Ext h1 n1 h2 d->xa x=b->WC C abM [(k3,.b b)] h2 d (fq [.t k2] Q):=by intro b h2 d k hb;have:=j h2 d (v.trans k);rw[hb]at this;refine ε<|γ U<|ψ U U<|mU g.f42<|γ U<|δ (Γ ⟨_,rfl,this⟩)
 unfold xa at fin;rw[A,u]at fin;generalize m7 o=cs at*;refine ε<|γ U<|δ ?_;refine aj<|ε<|eC (b:=[110]) U U<|γ U<|δ ?_;refine cm U (λl=>?_) (λl=>?_)
 ·simp only[aW]at l;rw[ao l]at fin;by_cases hs:x.sort=lU\/x.sort=mV
  ·have ds:decide (x.sort=lU\/x.sort=mV)=true:=nE hs;rw[ds]at fin;have r:∀{Q:V->Hf->K->Prop},Q (.b true) h1 n1->ν C (.f 189 [] []) [st x.sort] h1 n1 Q:=λj=>RI g (by rw[ds];exact j);by_cases h2:o=2
   ·subst h2;have:((2:Nat):Int)=2:=rfl;refine nO<|bG U<|bG U<|aC U (ls c) U (fg _ _)<|aY U U<|r<|nQ U<|ak U<|aR U (rfl)<|bG U<|aR U (rfl)<|bG U<|aR U (rfl)<|aC U (lo c) U (ff _ _)<|aR U (rfl)<|wy U U<|aR U (rfl)<|ak U<|aR U (rfl)<|bG U<|aR U (rfl)<|bG U<|aR U (rfl)<|aC U (D c) U (fg _ _)<|aR U (rfl)<|aY U U<|BR g hl <| λh2 d k=>aR U (rfl)<|wy U U<|aR U (rfl)<|bG U<|aR U (rfl)<|bG U<|aR U (rfl)<|aC U (ls k) U (fg _ _)<|aR U (rfl)<|aaJ (b:=[73,110,116]) U U<|aR U (rfl)<|aaK U U<|aR U (rfl)<|yp U (rfl) U<|pz U (rfl) U<|ak U<|bU (⟨⟨bH (ls c) (ls k),ω (by simp[Nat.testBit]),trivial⟩,⟨ω (by simp[Nat.testBit]),ω (by simp[Nat.testBit]),trivial⟩,⟨ω (by simp[Nat.testBit]),ω (by simp[Nat.testBit]),trivial⟩,⟨ω (by simp[Nat.testBit]),ω (by simp[Nat.testBit]),trivial⟩,trivial⟩) ?_;exact χ (fin _ h2 d k (by simp;rfl)) (ρ.rf U)
   ·refine nO<|bG U<|bG U<|aC U (ls c) U (fg _ _)<|aY U U<|r<|nQ U<|ak U<|aR U (rfl)<|bG U<|aR U (rfl)<|bG U<|aR U (rfl)<|aC U (lo c) U (ff _ _)<|aR U (rfl)<|wy U U<|aR U (rfl)<|ak U<|dN U (by simp<;>omega)<|dN U (by simp<;>omega)<|dN U (by simp<;>omega)<|dN U (by simp<;>omega)<|dN U (by simp<;>omega)<|dN U (by simp<;>omega)<|dN U (by simp<;>omega)<|dN U (by simp<;>omega)<|dN U (by simp<;>omega)<|dN U (by simp<;>omega)<|aR U (rfl)<|pz U (by simp<;>omega) U<|pz U (rfl) U<|ak U<|bU (⟨⟨ω (by simp[Nat.testBit]),trivial⟩,⟨ω (by simp[Nat.testBit]),trivial⟩,trivial⟩) ?_;exact χ (fin false h1 n1 c (by simp;omega)) (ρ.rf U)
  ·have ds:decide (x.sort=lU\/x.sort=mV)=false:=eK hs;rw[ds]at fin;have r:∀{Q:V->Hf->K->Prop},Q (.b false) h1 n1->ν C (.f 189 [] []) [st x.sort] h1 n1 Q:=λj=>RI g (by rw[ds];exact j);refine nO<|bG U<|bG U<|aC U (ls c) U (fg _ _)<|aY U U<|r<|nQ U<|ak U<|dN U (rfl)<|dN U (rfl)<|dN U (rfl)<|dN U (rfl)<|dN U (rfl)<|ru U<|ru U<|ru U<|ru U<|ru U<|ru U<|ru U<|ru U<|ru U<|ru U<|dN U (rfl)<|yp U (rfl) U<|ak U<|bU (⟨⟨ω (by simp[Nat.testBit]),trivial⟩,trivial⟩) ?_;exact χ (fin true h1 n1 c rfl) (ρ.rf U)
 simp only[cg]at l;rw[Θ l]at fin;refine ε<|eC (b:=[115]) U U<|γ U<|δ ?_;refine cm U (λm=>?_) (λm=>?_)
 ·simp only[aW]at m;rw[ao m]at fin;refine aA<|σ U<|σ U<|ξ U (ls c)<|eC (b:=[]) U U<|γ U<|δ ?_;exact χ (fin _ h1 n1 c rfl) (ρ.rf U)
 simp only[cg]at m;rw[Θ m]at fin;refine ε<|eC (b:=[45]) U U<|γ U<|δ ?_;refine cm U (λq=>?_) (λq=>?_)
 ·simp only[aW]at q;rw[ao q]at fin;refine aA<|σ U<|σ U<|ξ U (ls c)<|rA (b:=[]) U U<|γ U<|δ ?_;exact χ (fin _ h1 n1 c rfl) (ρ.rf U)
 simp only[cg]at q;rw[Θ q]at fin;refine aA<|σ U<|σ U<|ξ U (ls c)<|γ U<|rA U U<|γ U<|δ ?_;exact χ (fin _ h1 n1 c rfl) (ρ.rf U)
def ajz{s:S}(h:fm s=0):lS s≠0:=by
 obtain⟨hf,_⟩:=yA h;obtain⟨b,_⟩:=Bm hf;have f:gi s=false:=by
  cases hs:gi s with
  | false=>rfl
  | true=>
   obtain⟨c,a,he⟩:=List.any_eq_true.1 hs;simp only[aW]at he;exfalso;cases s with
   | nil=>cases a
   | cons d l=>
    by_cases e:d.toNat=45
    ·rcases eO.1 a with rfl | a
     ·omega
     ·have hb:body (d::l)=l:=by simp[body,e]
      have:=wO (b c (by rw[hb];exact a));omega
    ·have hb:body (d::l)=d::l:=by simp[body,e]
     have:=wO (b c (by rw[hb];exact a));omega
 have hs:jU s=none:=by unfold jU;rw[Jg f]
 unfold lS;rw[hs];simp
def ajA{x:Nd}(z:0<=x.op/\x.op<20)(c:jn x=0):(if xa x then 13 else 0)=lW x:=by
 obtain⟨o,j⟩:∃o:Nat,x.op=(o:Nat):=⟨x.op.toNat,by omega⟩;have k:x.op.toNat=o:=by omega
 unfold xa lW;rw[k];unfold jn at c;rw[j]at c ⊢;have l:((o:Int)=2)↔o=2:=by omega
 have m:((o:Int)=3)↔o=3:=by omega
 have p:((o:Int)=4)↔o=4:=by omega
 have q:((o:Int)=10)↔o=10:=by omega
 have r:((o:Int)=12)↔o=12:=by omega
 have s:((o:Int)=13)↔o=13:=by omega
 have t:((o:Int)=14)↔o=14:=by omega
 have u:((o:Int)=19)↔o=19:=by omega
 simp only[l,m,p,q,r,s,t,u]at c ⊢;by_cases h2:o=2
 ·subst h2;have b:m7 2=[110]:=rfl;rw[b,ao rfl,ao rfl];rw[ao rfl]at c;have v:fm x.name=0\/lS x.name=0:=by
   cases hi:isNumeral x.name with
   | true=>simpa[isNumeral]using hi
   | false=>rw[hi]at c;simp at c
  have w:x.sort=lU->¬ x.sort=mV:=λe=>by rw[e];decide
  have y:x.sort=mV->¬ x.sort=lU:=λe=>by rw[e];decide
  by_cases h1:x.sort=lU
  ·have:=w h1;by_cases a:fm x.name=0
   ·simp[h1,a]
   ·simp[h1,a]
  ·by_cases d:x.sort=mV
   ·have:=y d;by_cases a:fm x.name=0
    ·have:=ajz a;simp[h1,d,a,this]
    ·have:lS x.name=0:=v.resolve_left a;simp[h1,d,a,this]
   ·simp[h1,d]
 ·rw[Θ h2];by_cases g:o=12\/o=13\/o=14
  ·have b:m7 o=[110]:=by simp[m7,g]
   rw[b,ao rfl,ao g];by_cases h1:x.sort=lU\/x.sort=mV<;>simp[h1,h2]
  ·rw[Θ g];have i:¬ (o=2\/o=12\/o=13\/o=14):=λh=>by omega
   by_cases a:o=3\/o=4\/o=10
   ·have b:m7 o=[115]:=by unfold m7;rw[Θ i,ao a]
    rw[b,ao a];by_cases h1:x.sort=[]<;>simp[h1]
   ·rw[Θ a];by_cases f:o=19
    ·have b:m7 o=[45]:=by unfold m7;rw[Θ i,Θ a,ao f]
     rw[b,ao f];by_cases h1:x.sort=[]<;>simp[h1]
    ·have b:m7 o=yB:=by unfold m7;rw[Θ i,Θ a,Θ f]
     rw[b,Θ f];by_cases h1:x.sort=yB<;>simp[h1]
def ajB{o:Nat}(h:o<20)(k:Nat):gL (o:Int) k=!(decide (0<=uO o/\(k:Int)≠uO o)||decide (uO o = -2/\k=0)):=by
 have:o=0\/o=1\/o=2\/o=3\/o=4\/o=5\/o=6\/o=7\/o=8\/o=9\/o=10\/o=11\/o=12\/o=13\/o=14\/o=15\/o=16\/o=17\/o=18\/o=19:=by omega
 rcases this with rfl | rfl | rfl | rfl | rfl | rfl | rfl | rfl | rfl | rfl | rfl | rfl | rfl | rfl | rfl | rfl | rfl | rfl | rfl | rfl<;>simp[gL,uO]<;>(try omega)<;>(cases k<;>simp<;>omega)
end
section
variable {C:Nat->Option aI}{h:Hf}{n:K}{Q:V->Hf->K->Prop}
def ajC{ts:List Nd}:∀(j i m:Nat),(∀k,k<j->lX ts (i+k)=0)->lX ts (i+j)≠0->j<m->ki ts m i=lX ts (i+j):=by
 intro j
 induction j with
 | zero=>
  intro i m b a hm;cases m with
  | zero=>omega
  | succ m=>rw[hJ]at a;rw[ki,ao a,hJ]
 | succ j ih=>
  intro i m b a hm;cases m with
  | zero=>omega
  | succ m=>
   rw[ki,Θ (by simpa using b 0 (by omega)),ih (i+1) m (λk c=>by rw[show i+1+k=i+(k+1) by omega];exact b _ (by omega)) (by rw[show i+1+j=i+(j+1) by omega];exact a) (by omega)];congr 1;omega
def ajD{ts:List Nd}:∀(m i:Nat),(∀k,k<m->lX ts (i+k)=0)->ki ts m i=0:=by
 intro m
 induction m with
 | zero=>intro i a;rfl
 | succ m ih=>
  intro i a;rw[ki,Θ (by simpa using a 0 (by omega))];exact ih (i+1) λk b=>by rw[show i+1+k=i+(k+1) by omega];exact a _ (by omega)
def KA{ts:List Nd}{i:Nat}(hi:i<ts.length)(h:lX ts i=0):ord ts i=true:=by
 rw[ET hi]at h;by_cases a:kh ts ts[i] i=0
 ·exact JQ a
 ·rw[ao a]at h;exact absurd h a
section
variable {b1 b2 b4:K}{t vv kv:V}{ts:List Nd}{i:Nat}
def ajE(y:Cd C)(hb:Bd ts)(Z:Gl h n)(hi:i<ts.length)(ht:aZ h n t ts)(hv:du h n vv ts[i].vars)(u:da h n .i64 kv ts[i].kids)(ho:∀j,j<i->ord ts j=true)
 (c1:Cl h n b1 [t] 23)(c2:Cl h n b2 [.i .i64 0] 29)(L:Cl h n b4 (kC ts[i] vv kv i) 141){Q1:Ex->Env->Hf->K->Prop}
 (M:∀e h1 h' n' E',e=lX ts i->e≠0->Ext h n h1 n'->bm b2 h1 h'->h' b2=some (.c [.i .i64 e] 29 0)->Q1 .ret E' h' n')
 (pC:lX ts i=0->∀h' n' E',Ext h n h' n'->Q1 .normal E' h' n'):
 WC C H7 [(k1,.p b1 0),(k2,.p b2 0),(k4,.p b4 0)] h n Q1:=by
 have hlen:=hb.len;have v:=ET hi;have w:kh ts ts[i] i=if pF ts[i].op then 11 else if gL ts[i].op ts[i].kids.length=false then 2 else if ord ts i=false then 9 else 0:=by unfold kh;rw[JH];cases pF ts[i].op<;>cases gL ts[i].op ts[i].kids.length<;>cases ord ts i<;>simp
 have lo:bj h false 1 (.p b4 (0+0+0))=some (.i .i64 ts[i].op):=L.ld U _;by_cases F:pF ts[i].op=true
 ·rw[w,ao F,ao (by decide)]at v;have fin:∀E,ρ [(k2,.p b2 0)] E->WC C abe E h n (sq C H8 Q1):=by
   intro E G;refine bS G ?_;refine ε<|aH U U c2.2 U <| λA I b7=>δ ?_;exact Γ (M 11 h A n _ v.symm (by decide) (Ext.refl _ _) b7 I)
  by_cases h0:ts[i].op<0
  ·refine θ<|ε<|σ U<|σ U<|ξ U lo<|ay U U<|γ U<|μ U (by simp[h0])<|μ U (by simp[h0])<|μ U (by simp[h0])<|μ U (by simp[h0])<|aU U (by simp[h0]) U<|δ ?_;exact ah U (by simp[h0])<|fin _ (ρ.rf U)
  ·have Gk:20<=ts[i].op:=by simpa[pF,h0]using F
   refine θ<|ε<|σ U<|σ U<|ξ U lo<|ay U U<|γ U<|ζ U (by simp[h0])<|σ U<|ζ U (by simp[h0])<|σ U<|ζ U (by simp[h0])<|ξ U lo<|ζ U (by simp[h0])<|dj U U<|aL U (by simp[h0]) U<|δ ?_;exact ah U (by simp[Gk])<|fin _ (ρ.rf U)
 ·simp only[nG]at F;rw[F]at w;have bp:0<=ts[i].op/\ts[i].op<20:=by
   simp only[pF,zV,cg]at F;omega
  refine θ<|ε<|σ U<|σ U<|ξ U lo<|ay U U<|γ U<|ζ U (by simp<;>omega)<|σ U<|ζ U (by simp<;>omega)<|σ U<|ζ U (by simp<;>omega)<|ξ U lo<|ζ U (by simp<;>omega)<|dj U U<|aL U (by simp<;>omega) U<|δ ?_;refine ae U (by simp<;>omega)<|Ω ?_;obtain⟨o,hoo⟩:∃o:Nat,ts[i].op=(o:Nat):=⟨ts[i].op.toNat,by omega⟩;have Fb:o<20:=by omega
  have qd:bj h false 1 (.p b4 (0+0+0))=some (.i .i64 (o:Nat)):=by rw[←hoo];exact lo
  have S:bj h false 1 (.p b4 (0+0+4))=some kv:=L.ld U _;refine ε<|σ U<|σ U<|ξ U qd<|Ed U U (by omega)<|σ U<|ξ U (Z.ld (SU Fb).2 _)<|γ U<|δ ?_;have B:=ajB Fb ts[i].kids.length;rw[←hoo]at B;have next:gL ts[i].op ts[i].kids.length=true->∀E,ρ [(k1,.p b1 0),(k2,.p b2 0),(k4,.p b4 0)] E->WC C H9 E h n Q1:=by
   intro hs E G;rw[hs]at w;refine bS G ?_;have qR:WC C H9 [(k1,.p b1 0),(k2,.p b2 0),(k4,.p b4 0)] h n Q1:=by
    refine θ<|ε<|ξ U (c1.ld U _)<|ξ U (bc L.2 rfl)<|ψ U U<|w97 y ht (by omega) hi u (hb.gw i hi) (κ.one hv) ho <| λh2 N r=>bZ U<|δ ?_;by_cases O:ord ts i=true
    ·rw[O]at w ⊢;have J:kh ts ts[i] i=0:=by rw[w];rfl
     rw[J,Θ (by simp)]at v;refine ae U U<|Ω ?_;have fO:=yG hi O;have x1:∀{h' n'},Ext h2 N h' n'->Ext h n h' n':=λe=>r.trans e;have be:∀{n':K},n.num<=n'.num->bk n' (.a (kC ts[i] vv kv i))=true:=by intro n' D;have h1:=κ.below hv D;have h2:=κ.below u D;simp only[bk,kC,fC,h1,h2];rfl
     have P:cI (.a (kC ts[i] vv kv i)) (.a (kC ts[i] vv kv i))=true:=by have h1:=κ.cH hv;have h2:=κ.cH u;simp only[cI,kC];exact qf (ff _ _) (qf (fg _ _) (qf (fg _ _) (qf h1 (qf h2 (qf (ff _ _) U)))))
     obtain⟨cs,sx⟩:=ht.sl;have bt:=κ.below sx (n':=N) (by have:=r.1;omega);have row:∀{H:Hf},Ag N h2 H->bj H true 6 (.p b4 0)=some (.a (kC ts[i] vv kv i)):=λag=>bc ((L.ext r).ext (ag.x (φ _))).2 rfl;have z2:=r.1;have T:∀(z:Int),(if xa ts[i] then 13 else 0)=z->et [if lT ts ts[i].op ts[i].kids.length ts[i].kids 0 then 11 else 0,jn ts[i],jo ts[i],z]=wQ ts ts[i]:=by
      intro z T;unfold wQ;rw[R3,R3];by_cases D:jn ts[i]=0
      ·rw[←T,ajA bp D]
      ·rw[ao D,ao D]
     refine cX<|aC U ((c1.ext r).ld U _) bt (κ.cH sx)<|aC U (row (Ag.refl _ _)) (be z2) P<|aY U U<|w98 y (ht.ext r) (by omega) (κ.one hv) (u.ext r) (hb.gw i hi) fO <| λh3 n3 d=>aC U (row d.ag) (be (by have:=d.1;omega)) P<|aY U U<|w99 y (κ.one hv) (κ.one u) (hb.nm i hi) <| λh4 n4 f=>aC U (row (d.trans f).ag) (be (by have:=d.1;have:=f.1;omega)) P<|aY U U<|ajx y (hv.ext (r.trans (d.trans f))) (κ.one u) (hb.vl i hi) (hb.vn i hi) <| λh5 n5 g=>aC U (row ((d.trans f).trans g).ag) (be (by have:=d.1;have:=f.1;have:=g.1;omega)) P<|aY U U<|ajy y (Z.ext (r.trans ((d.trans f).trans g))) bp (κ.one hv) (κ.one u) (hb.nm i hi) <| λh6 s q=>lP U <| λA n7 oW I e7=>aY U U<|Bq y.f41 (l:=[if lT ts ts[i].op ts[i].kids.length ts[i].kids 0 then 11 else 0,jn ts[i],jo ts[i],if xa ts[i] then 13 else 0]) (κ.whole (len:=4) (by omega) I rfl) (by simp)<|ak U<|bU (⟨⟨ω (by simp[Nat.testBit]),ω (by simp[Nat.testBit]),bH (row ((d.trans f).ag.hp s none (((d.trans f).trans g).trans q).1)) (row (((d.trans f).trans g).ag.hp s none (((d.trans f).trans g).trans q).1)),bH (row (d.ag.hp s none (((d.trans f).trans g).trans q).1)) (row ((d.trans f).ag.hp s none (((d.trans f).trans g).trans q).1)),bH (row ((Ag.refl _ _).hp s none (((d.trans f).trans g).trans q).1)) (row (d.ag.hp s none (((d.trans f).trans g).trans q).1)),trivial⟩,⟨ω (by simp[Nat.testBit]),ω (by simp[Nat.testBit]),ω (by simp[Nat.testBit]),bH (row (d.ag.hp s none (((d.trans f).trans g).trans q).1)) (row ((d.trans f).ag.hp s none (((d.trans f).trans g).trans q).1)),bH (row ((Ag.refl _ _).hp s none (((d.trans f).trans g).trans q).1)) (row (d.ag.hp s none (((d.trans f).trans g).trans q).1)),trivial⟩,⟨ω (by simp[Nat.testBit]),ω (by simp[Nat.testBit]),ω (by simp[Nat.testBit]),ω (by simp[Nat.testBit]),bH (row ((Ag.refl _ _).hp s none (((d.trans f).trans g).trans q).1)) (row (d.ag.hp s none (((d.trans f).trans g).trans q).1)),trivial⟩,⟨ω (by simp[Nat.testBit]),ω (by simp[Nat.testBit]),ω (by simp[Nat.testBit]),ω (by simp[Nat.testBit]),ω (by simp[Nat.testBit]),trivial⟩,⟨ω (by simp[Nat.testBit]),ω (by simp[Nat.testBit]),ω (by simp[Nat.testBit]),ω (by simp[Nat.testBit]),ω (by simp[Nat.testBit]),trivial⟩,trivial⟩) ?_
     rw[T _ rfl];have W:Ext h n A n7:=r.trans ((((d.trans f).trans g).trans q).trans e7);refine ε<|γ U<|dR U U<|δ ?_;by_cases R:wQ ts ts[i]=0
     ·exact ae U (by simp[R])<|Ω<|pC (by rw[v,R]) _ _ _ W
     ·refine ah U (by simp[R]) ?_;refine ε<|γ U<|aH U U ((c2.ext W).2) U <| λX Y b8=>δ ?_;exact Γ (M _ A X n7 _ v.symm R W b8 Y)
    ·simp only[nG]at O;rw[O]at w ⊢;have J:kh ts ts[i] i=9:=by rw[w];rfl
     rw[J,ao (by decide)]at v;refine ah U U ?_;refine ε<|aH U U ((c2.ext r).2) U <| λX Y b8=>δ ?_;exact Γ (M 9 h2 X N _ v.symm (by decide) r b8 Y)
   exact qR
  have bad:gL ts[i].op ts[i].kids.length=false->∀E,ρ [(k2,.p b2 0)] E->WC C abf E h n (sq C H9 Q1):=by
   intro hs E G;rw[hs]at w;have J:kh ts ts[i] i=2:=by rw[w];rfl
   rw[J,ao (by decide)]at v;refine bS G ?_;refine ε<|aH U U c2.2 U <| λA I b7=>δ ?_;exact Γ (M 2 h A n _ v.symm (by decide) (Ext.refl _ _) b7 I)
  by_cases b:0<=uO o
  ·by_cases k:(ts[i].kids.length:Int)=uO o
   ·refine θ<|ε<|γ U<|dj U U<|γ U<|ζ U (by simp[b])<|σ U<|ζ U (by simp[b])<|σ U<|ζ U (by simp[b])<|ξ U S<|ζ U (by simp[b])<|al U u<|ζ U (by simp[b])<|γ U<|ζ U (by simp[b])<|dR U U<|aU U (by simp[b]) U<|γ U<|ζ U (by simp[k])<|γ U<|ζ U (by simp[k])<|aS U U<|ζ U (by simp[k])<|γ U<|μ U (by simp<;>omega)<|μ U (by simp<;>omega)<|μ U (by simp<;>omega)<|μ U (by simp<;>omega)<|μ U (by simp<;>omega)<|ζ U (by simp[k])<|aL U (by simp<;>omega) U<|aL U (by simp[k]) U<|δ ?_;refine ae U U<|Ω<|next ?_ _ (ρ.rf U);rw[B];simp[k];omega
   ·refine θ<|ε<|γ U<|dj U U<|γ U<|ζ U (by simp[b])<|σ U<|ζ U (by simp[b])<|σ U<|ζ U (by simp[b])<|ξ U S<|ζ U (by simp[b])<|al U u<|ζ U (by simp[b])<|γ U<|ζ U (by simp[b])<|dR U U<|aU U (by simp[b]) U<|γ U<|μ U (by simp[k])<|μ U (by simp[k])<|μ U (by simp[k])<|dM U<|dM U<|dM U<|dM U<|dM U<|μ U (by simp[k])<|aU U (by simp[k]) U<|δ ?_;refine ah U (by simp[k])<|bad ?_ _ (ρ.rf U);rw[B];simp[k,b]
  ·by_cases m:uO o = -2
   ·refine θ<|ε<|γ U<|dj U U<|γ U<|μ U (by simp[b])<|μ U (by simp[b])<|μ U (by simp[b])<|μ U (by simp[b])<|μ U (by simp[b])<|μ U (by simp[b])<|aL U (by simp[b]) U<|γ U<|ζ U U<|γ U<|ζ U U<|aS U U<|ζ U U<|γ U<|ζ U (by simp[m])<|σ U<|ζ U (by simp[m])<|σ U<|ζ U (by simp[m])<|ξ U S<|ζ U (by simp[m])<|al U u<|ζ U (by simp[m])<|aS U U<|ζ U U<|aU U (by simp[m]) U<|aL U U U<|δ ?_;by_cases k:ts[i].kids.length=0
    ·refine ah U (by simp[k])<|bad ?_ _ (ρ.rf U);rw[B];simp[k,m]
    ·refine ae U (eK (by omega))<|Ω<|next ?_ _ (ρ.rf U);rw[B];simp[k,b]
   ·refine θ<|ε<|γ U<|dj U U<|γ U<|μ U (by simp[b])<|μ U (by simp[b])<|μ U (by simp[b])<|μ U (by simp[b])<|μ U (by simp[b])<|μ U (by simp[b])<|aL U (by simp[b]) U<|γ U<|ζ U U<|γ U<|ζ U U<|aS U U<|ζ U U<|γ U<|μ U (by simp[m])<|μ U (by simp[m])<|μ U (by simp[m])<|μ U (by simp[m])<|μ U (by simp[m])<|ζ U U<|aL U (by simp[m]) U<|aL U U U<|δ ?_;refine ae U U<|Ω<|next ?_ _ (ρ.rf U);rw[B];simp[b,m]
end
end
section
variable {C:Nat->Option aI}{h:Hf}{n:K}{Q:V->Hf->K->Prop}
def WJ(d:Cd C){t:V}{ts:List Nd}(hb:Bd ts)(hg:Gl h n)(ht:aZ h n t ts)(P:∀h' n',Ext h n h' n'->Q (.i .i64 (dn ts)) h' n'):ν C (.f 36 [] []) [t] h n Q:=by
 obtain⟨m,tm⟩:=ht.get;obtain⟨cs,hs⟩:=ht.sl;have hlen:=hb.len;refine ν.go d.f36 U ?_;refine ε<|cR U hs.cells (en hs.one) <| λh1 n1 cA a1 e1=>bA <| λh2 v dS a2 e2=>δ ?_;have x2:=e1.trans e2;have c1:Cl h2 v n [t] 23:=Cl.ext ⟨by omega,a1⟩ e2;have c2:Cl h2 v n1 [.i .i64 0] 29:=⟨by omega,a2⟩;have B:=hs.ext x2;have l1:∀{H:Hf},Ag v h2 H->bj H false 1 (.p n 0)=some t:=λag=>(c1.ext (ag.x (φ _))).ld U _;have be:∀{n':K},v.num<=n'.num->bk n' t=true:=λR=>B.below R;have ve:=κ.cH B;clear a1 a2;refine θ<|cX<|aC U (l1 (Ag.refl _ _)) (be (φ _)) ve<|AY U B<|wy U U<|aY U U<|mU d.f42<|aC U (l1 (Ag.refl _ _)) (be (φ _)) ve<|AY U B<|sH U U<|aY U U<|mU d.f42<|lP U <| λD F gJ a3 G=>aY U U<|Bq d.f41 (l:=[if decide ((ts.length:Int)=0) then 10 else 0,if decide ((2000:Int)<ts.length) then 5 else 0]) (κ.whole (len:=2) (by omega) a3 rfl) (by simp)<|ak U<|bU (⟨⟨ω (by simp[Nat.testBit]),ω (by simp[Nat.testBit]),wL trivial trivial,trivial⟩,⟨ω (by simp[Nat.testBit]),ω (by simp[Nat.testBit]),bH (l1 ((Ag.refl _ _).hp v none (φ _))) (l1 ((Ag.refl _ _).hp v none (φ _))),trivial⟩,⟨ω (by simp[Nat.testBit]),ω (by simp[Nat.testBit]),ω (by simp[Nat.testBit]),trivial⟩,⟨ω (by simp[Nat.testBit]),ω (by simp[Nat.testBit]),ω (by simp[Nat.testBit]),trivial⟩,trivial⟩) ?_
 rw[BD];have x3:=x2.trans G;have J:=c2.ext G;have ret:∀(e:Int),e=dn ts->∀E,ρ [(k2,.p n1 0),(k3,.i .i64 e)] E->WC C abd E D F (sq C Px (fq [.cell k2 false 1] Q)):=by intro e hf E hE;refine bS hE ?_;refine ε<|γ U<|aH U U J.2 U <| λh7 w b7=>δ ?_;refine Γ ⟨_,jE rfl (cE w rfl _),?_⟩;rw[hf];exact P _ _ (x3.ab b7 (by omega))
 refine ε<|γ U<|dR U U<|δ ?_;by_cases h1:ts.length=0
 ·refine ah U (by simp[h1]) ?_;exact ret 10 (by simp[dn,h1]) _ ⟨rfl,by show some (V.i _ _)=_;simp[h1],trivial⟩
 by_cases h2:2000<ts.length
 ·refine ah U (by simp[h1]<;>omega) ?_;refine ret 5 (by simp[dn,h1,h2]) _ ⟨rfl,?_,trivial⟩;show some (V.i _ _)=_;rw[Θ (by simp[h1]),ao (by simp<;>omega)]
 refine ae U ?_<|Ω ?_
 ·rw[Θ (by simp[h1]),Θ (by simp<;>omega)];rfl
 have jv:=c1.ext G;refine θ<|ε<|ξ U (jv.ld U _)<|ψ U U<|Jk d (tm.ext x3) (by omega) ?_;intro bb e h4 S x4 a4 wc af6 it;refine δ ?_;have y3:=G.1;have y4:=x4.1;let I:Nat->Hf->K->Prop:=λj h' n'=>Ext D F h' n'/\(bb.num<n'.num/\h' bb=some (.c [t] e 0))/\∀i,i<j->lX ts i=0;let Dr:Ex->Hf->K->Prop:=λex h' n'=>ex=.ret/\∃h1,Ext D F h1 n'/\bm n1 h1 h'/\h' n1=some (.c [.i .i64 (dn ts)] 29 0);refine aj<|sJ U it I Dr ?_ ?_ ?_ ?_ ?_ ?_ ?_ ?_
 ·rintro j h1 m1 h' n' ⟨g1,⟨g,q⟩,o⟩ ex;exact⟨g1.trans ex,⟨ep g ex.1,by rw[ex.2 _ g];exact q⟩,o⟩
 ·rintro j h1 m1 h' ⟨g1,⟨g,q⟩,o⟩ r;exact⟨g1.ab r (by omega),⟨g,by rw[r _ (by omega)];exact q⟩,o⟩
 ·rintro j h1 m1 ⟨g1,g,_⟩;exact⟨g.1,g.2,tm.ext (x3.trans g1)⟩
 ·intro j hj;rw[qp];rfl
 ·intro h' r;have Mp:S.succ.num=S.num+1:=K.eF S;exact⟨(x4.ab r (by omega)).succ,⟨by omega,by rw[r _ (by omega)];exact a4⟩,λi hi=>by omega⟩
 ·rintro j hj h5 n5 E1 T ⟨g1,⟨g,q⟩,o⟩ W;have X:j<ts.length:=by rw[pD]at hj;exact hj
  rw[qp]at W;simp only[jB,lK]at W;subst W;obtain⟨vv,kv,eG,kB,gK⟩:=tm.row X;rw[eG,Bs];have bf:=sT ts[j] (κ.one kB) (κ.one gK) (i:=j);refine aA<|bA <| λh6 b jl a6 a=>aH U U a6 (cj rfl rfl bf) <| λh7 w b7=>δ ⟨rfl,by rw[b7 _ (by omega),a.2 _ T],λL b8=>?_⟩;have c4:Cl L b n5 (kC ts[j] vv kv j) 141:=(Cl.ab ⟨by omega,w⟩ b8 (by omega));have g11:=g1.1;have y:Ext D F L b:=((g1.trans a).ab b7 (by omega)).ab b8 (by omega);have u:=x3.trans y;refine aj<|χ (ajE d hb (hg.ext u) X (ht.ext u) (kB.ext u) (gK.ext u) (λi hi=>KA (by omega) (o i hi)) (jv.ext y) (J.ext y) c4 ?_ ?_) (ρ.rf U)
  ·intro er h9 h' n' E' he aG s b9 a9;have z9:=s.1;have hf:dn ts=er:=by
    have sZ:=ajC (ts:=ts) j 0 ts.length (λk Y=>by rw[eW];exact o k Y) (by rw[eW,←he];exact aG) X;rw[eW,←he]at sZ;unfold dn;rw[Θ h1,Θ h2,sZ,ao aG]
   refine⟨by omega,(b9 _ (by omega)).trans (s.2 _ (by omega)),rfl,h9,y.trans s,b9,by rw[hf];exact a9⟩
  ·intro he h' n' E' s;have z9:=s.1;refine⟨by omega,s.2 _ (by omega),y.trans s,⟨by omega,?_⟩,λi hi=>?_⟩
   ·rw[s.2 _ (by omega),b8 _ (by omega),b7 _ (by omega),a.2 _ g];exact q
   ·by_cases qH:i=j
    ·rw[qH];exact he
    ·exact o i (by omega)
 ·rintro h' n' T ⟨g1,⟨g,q⟩,o⟩;rw[pD]at o;have ho:∀j,j<ts.length->ord ts j=true:=λj hj=>KA hj (o j hj);have hz:ki ts ts.length 0=0:=ajD _ _ λk Y=>by rw[eW];exact o k Y
  have hfe:dn ts=wR ts:=by unfold dn;rw[Θ h1,Θ h2,hz,Θ (by simp)]
  have u:=x3.trans g1;have M:=ht.ext u;obtain⟨csF,N⟩:=M.sl;have O:ts.length - 1<ts.length:=by omega
  have cF:=jv.ext g1;have dF:=J.ext g1;refine ε<|ξ U (cF.ld U _)<|al U N<|jR U U (show(ts.length:Int) - 1=((ts.length - 1:Nat):Int) by omega) ⟨by omega,by omega⟩<|γ U<|δ ?_;have lt:∀{H:Hf},Ag n' h' H->bj H false 1 (.p n 0)=some t:=λag=>(cF.ext (ag.x (φ _))).ld U _;have A:∀{H:Hf},Ag n' h' H->bj H false 1 (.p t.blk (t.off+(ts.length - 1)*5+0))=some (.i .i64 (qw ts (ts.length - 1))):=λag=>by obtain⟨vv,kv,hx⟩:=(M.ext (ag.x (φ _))).node O;have:=hx.op 1;rw[←Br O]at this;exact this
  have Z:∀{ma:K},n'.num<=ma.num->bk ma t=true:=λR=>N.below R;have WL:=κ.cH N;refine cX<|aC U (lt (Ag.refl _ _)) (Z (φ _)) WL<|ak U<|aY U U<|Jn d.f102 M (by omega) O (λj hj=>ho j (by omega))<|A3 U U<|aY U U<|mU d.f42<|aC U (lt (Ag.refl _ _)) (Z (φ _)) WL<|ak U<|cK U U N O<|bG U<|aC U (A (Ag.refl _ _)) U (ff _ _)<|wy U U<|aY U U<|mU d.f42<|aC U (lt (Ag.refl _ _)) (Z (φ _)) WL<|aY U U<|af9 d M (by omega) (by omega) hb.gw ho <| λh6 b a=>sH U U<|aY U U<|mU d.f42<|lP U <| λh7 n7 oW w e7=>aY U U<|Bq d.f41 (l:=[if (!decide (((fs ts (ts.length - 1):Nat):Int)=0)) then 9 else 0,if decide (qw ts (ts.length - 1)=19) then 11 else 0,if decide (60<tN ts) then 24 else 0]) (κ.whole (len:=3) (by omega) w rfl) (by simp)<|eT U U (((dF.ext a).ext e7).2) U <| λL a8 b8=>bU (⟨⟨ω (by simp[Nat.testBit]),ω (by simp[Nat.testBit]),ω (by simp[Nat.testBit]),ω (by simp[Nat.testBit]),bH (lt ((Ag.refl _ _).hp b none a.1)) (lt ((Ag.refl _ _).hp b none a.1)),bH (lt ((Ag.refl _ _).hp b none a.1)) (lt ((Ag.refl _ _).hp b none a.1)),bH (lt ((Ag.refl _ _).hp b none a.1)) (lt ((Ag.refl _ _).hp b none a.1)),trivial⟩,⟨ω (by simp[Nat.testBit]),ω (by simp[Nat.testBit]),ω (by simp[Nat.testBit]),ω (by simp[Nat.testBit]),ω (by simp[Nat.testBit]),bH (A ((Ag.refl _ _).hp b none a.1)) (A ((Ag.refl _ _).hp b none a.1)),bH (A ((Ag.refl _ _).hp b none a.1)) (A ((Ag.refl _ _).hp b none a.1)),trivial⟩,⟨ω (by simp[Nat.testBit]),ω (by simp[Nat.testBit]),ω (by simp[Nat.testBit]),ω (by simp[Nat.testBit]),ω (by simp[Nat.testBit]),bH (lt ((Ag.refl _ _).hp b none a.1)) (lt ((Ag.refl _ _).hp b none a.1)),bH (lt ((Ag.refl _ _).hp b none a.1)) (lt ((Ag.refl _ _).hp b none a.1)),trivial⟩,⟨ω (by simp[Nat.testBit]),ω (by simp[Nat.testBit]),ω (by simp[Nat.testBit]),ω (by simp[Nat.testBit]),ω (by simp[Nat.testBit]),ω (by simp[Nat.testBit]),ω (by simp[Nat.testBit]),trivial⟩,trivial⟩) ?_
  refine Γ ⟨_,jE rfl (cE a8 rfl _),?_⟩;have hl:wR ts=et [if (!decide (((fs ts (ts.length - 1):Nat):Int)=0)) then 9 else 0,if decide (qw ts (ts.length - 1)=19) then 11 else 0,if decide (60<tN ts) then 24 else 0]:=by unfold wR;simp only[aW];congr 1;simp
  have:=P L n7 (((u.trans a).trans e7).ab b8 (by omega));rw[hfe,hl]at this;exact this
 ·rintro ex h' n' oF T ⟨rfl,lB,g1,g,q⟩ r;have z:=g1.1;have zz:=(J.ext g1).1;refine⟨_,jE rfl (cE (show oF n1=_ by rw[r _ (by omega)];exact q) U _),?_⟩;exact P _ _ (((x3.trans g1).ab g (by omega)).ab r (by omega))
end
end Go.Ev.X
namespace Go.Ev.X
open Go Go.Ev
def ajG{ts:List Nd}:∀(m i:Nat),ki ts m i=0->∀k,k<m->lX ts (i+k)=0:=by
 intro m
 induction m with
 | zero=>intro i _ k a;omega
 | succ m ih=>
  intro i h k a;rw[ki]at h;by_cases h0:lX ts i=0
  ·rw[Θ (by simp[h0])]at h;cases k with
   | zero=>exact h0
   | succ k=>have:=ih (i+1) h k (by omega);rw[show i+(k+1)=i+1+k by omega];exact this
  ·rw[ao h0]at h;exact absurd h h0
def Cc{ts:List Nd}(hb:Bd ts)(h:dn ts=0):Rt ts/\ts.length<=2000/\fs ts (ts.length - 1)=0:=by
 unfold dn at h;by_cases h1:ts.length=0
 ·rw[ao h1]at h;exact absurd h (by decide)
 rw[Θ h1]at h;by_cases h2:2000<ts.length
 ·rw[ao h2]at h;exact absurd h (by decide)
 rw[Θ h2]at h;by_cases a:ki ts ts.length 0=0
 ·rw[Θ (by simp[a])]at h;refine⟨⟨hb,by omega,λj hj=>KA hj (by have:=ajG _ _ a j hj;rwa [eW]at this)⟩,by omega,?_⟩;unfold wR at h;rw[JH]at h;by_cases b:fs ts (ts.length - 1)=0
  ·exact b
  ·rw[Θ b,ao (by decide)]at h;exact absurd h (by decide)
 ·rw[ao a]at h;exact absurd h a
end Go.Ev.X
namespace Go.Ev.X
open Go Go.Ev
attribute [local irreducible] WC WO WD SO ν
section
variable {C:Nat->Option aI}{h:Hf}{n:K}{Q:V->Hf->K->Prop}
def Fe{ts:List Nd}(h:kj ts=true):Bd ts:=by
 simp only[kj,aK,mE]at h;obtain⟨h1,h2⟩:=h;have a:∀i (hi:i<ts.length),m6 ts[i]=true:=λi hi=>h2 _ (bK hi);have hl:ts.length<100000:=by
  by_cases b:120<ts.length
  ·have:ts.length=2001:=by simpa[b]using h1
   omega
  ·omega
 have hs:∀i (hi:i<ts.length),ts[i].name.length<=200/\ts[i].kids.length<=12/\ts[i].vars.length<=8/\∀v∈ts[i].vars,v.1.length<=200:=λi hi=>by have:=a i hi;simp only[m6,BP,aK,ov,cg,aW,mE]at this;obtain⟨g1,_,_,_,d,c,e⟩:=this;refine⟨by omega,by omega,by omega,λv hv=>?_⟩;have:=c v hv;simp only[rJ,aK,ov,cg]at this;omega
 exact⟨hl,λi hi=>by have:=(hs i hi).2.1;omega,λi hi=>by have:=(hs i hi).1;omega,λi hi=>by have:=(hs i hi).2.2.1;omega,λi hi v hv=>by have:=(hs i hi).2.2.2 v hv;omega⟩
end
end Go.Ev.X
