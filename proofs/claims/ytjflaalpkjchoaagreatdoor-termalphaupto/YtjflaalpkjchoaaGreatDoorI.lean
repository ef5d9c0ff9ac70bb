/- A part of the proof. -/
import Derived.Test.YtjflaalpkjchoaaGreatDoorG
import Derived.Test.YtjflaalpkjchoaaGreatDoorD
set_option linter.all false
namespace Go.Ev.X
open Go Go.Ev
attribute [local irreducible] WC WO WD SO μ
section
variable {C:Nat->Option aE}{h:Hf}{n:K}{Q:V->Hf->K->Prop}
def ajA(d:Cd C){s:S}(a:Q (.b (isNeg s)) h n):μ C (.f 285 [] []) [st s,st [45]] h n Q:=by
 refine μ.go d.f285 U ?_;refine ε<|γ U<|δ ?_;cases s with
 | nil=>
  refine ε<|γ U<|du U<|γ U<|du U<|iC U U<|γ U<|θ U (by simp)<|θ U (by simp)<|θ U (by simp)<|θ U (by simp)<|θ U (by simp)<|θ U (by simp)<|aW U (by simp) U<|γ U<|δ (aj ⟨_,rfl,a⟩)
 | cons c l=>
  refine ε<|γ U<|du U<|γ U<|du U<|iC U U<|γ U<|ζ U (by simp<;>omega)<|γ U<|ζ U (by simp<;>omega)<|γ U<|ζ U (by simp<;>omega)<|du U<|ζ U (by simp<;>omega)<|Ci U U U (by simp) (by simp)<|ζ U (by simp<;>omega)<|γ U<|ζ U (by simp<;>omega)<|iS U U<|bh U (by simp<;>omega) U<|γ U<|δ (aj ⟨_,rfl,?_⟩);have e:decide ((List.drop 0 (c::l)).take (([45]:S).length - 0)=[45])=isNeg (c::l):=by
   show decide ([c]=[45])=decide (c.toNat=45);have:([c]=[(45:UInt8)])↔c.toNat=45:=by
    constructor
    ·intro h;injection h with h;rw[h];rfl
    ·intro h;congr 1;exact UInt8.toNat_inj.1 h
   by_cases h:c.toNat=45
   ·rw[qb (this.2 h),qb h]
   ·rw[fB (λe=>h (this.1 e)),fB h]
  rw[e];exact a
def ajB(g:Cd C){s:S}(a:Q (.u [st (body s),.b (isNeg s)]) h n):μ C (.f 246 [] []) [st s,st [45]] h n Q:=by
 refine μ.go g.f246 U ?_;refine ε<|γ U<|γ U<|δ ?_;refine φ<|ε<|γ U<|γ U<|ah U U<|ajA g<|cz U<|δ ?_;cases s with
 | nil=>
  refine ax U U ?_;refine ε<|γ U<|γ U<|γ U<|δ (aj ⟨_,rfl,a⟩)
 | cons c l=>
  by_cases e:c.toNat=45
  ·have hb:body (c::l)=l:=by simp[body,e]
   have d:isNeg (c::l)=true:=by simp[isNeg,e]
   rw[hb,d]at a;refine az U (by rw[d];rfl)<|ay ?_;refine ε<|γ U<|γ U<|du U<|Ci U U U (by simp) (by simp)<|γ U<|γ U<|δ (aj ⟨_,rfl,?_⟩);have:((c::l).drop ([45]:S).length).take ((c::l).length - ([45]:S).length)=l:=by simp
   rw[this];exact a
  ·have hb:body (c::l)=c::l:=by simp[body,e]
   have d:isNeg (c::l)=false:=by simp[isNeg,e]
   rw[hb,d]at a;refine ax U (by rw[d];rfl) ?_;refine ε<|γ U<|γ U<|γ U<|δ (aj ⟨_,rfl,a⟩)
def TF(a:Cd C){s:S}(c:Q (.u [st (body s),.b (isNeg s)]) h n):μ C (.f 179 [] []) [st s,st [45]] h n Q:=by refine μ.go a.f179 U ?_;refine ε<|γ U<|γ U<|δ ?_;refine ε<|γ U<|γ U<|ah U U<|ajB a<|bU U U<|bU U U<|γ U<|γ U<|δ (aj ⟨_,rfl,c⟩)
def ajC{s:S}(hl:s.length<1000000){b:K}{h0:Hf}{n0:K}(o:n0.num<=b.num){Q1:Ex->Env->Hf->K->Prop}(g:s.all lJ=false->∀E h' n',Ext h0 n0 h' n'->Q1 .ret ((k2,.b false)::E) h' n')(k:s.all lJ=true->∀E h' n',Ext h0 n0 h' n'->Θ [(k0,st s)] E->Q1 .normal E h' n'):
 ∀(m i:Nat) (h:Hf) (n:K),s.length - i<=m->i<=s.length->h b=some (.it s.length (aT s) i)->Ext h0 n0 h n->(∀j (hj:j<s.length),j<i->lJ s[j]=true)->WC C aeE [(k0,st s),(k6,.p b 0)] h n (blk 0 Q1):=by
 intro m
 induction m with
 | zero=>
  intro i h n hm hi hb e a;refine aF ?_;refine ε<|zX U hb (by omega)<|bU U U<|δ ?_;refine φ<|az U U<|bG (k (kX.2 λc d=>?_) _ _ _ e (Θ.rf U));obtain⟨j,hj,rfl⟩:=fD d;exact a j hj (by omega)
 | succ m ih=>
  intro i h n hm hi hb e a;refine aF ?_;by_cases q:i<s.length
  ·refine ε<|Fq U hb (by omega) <| λr w h1 R t b1=>bU U U<|δ ?_;refine φ<|ax U U<|ay<|aA ?_;have f:=e.Ξ b1 o;have bad:lJ s[i]=false->s.all lJ=false:=λh=>by
    cases u:s.all lJ with
    | false=>rfl
    | true=>rw[kX.1 u _ (bL q)]at h;cases h
   have l:128<=s[i].toNat->lJ s[i]=false:=λh=>by simp only[lJ,Bool.and_eq_false_iff,gT];omega
   refine ε<|bU U U<|γ U<|δ ?_;by_cases x:r<48
   ·refine ε<|γ U<|aH U U<|γ U<|θ U (by simp<;>omega)<|θ U (by simp<;>omega)<|bh U (by simp<;>omega) U<|δ ?_;refine ax U (by simp<;>omega) ?_;refine ε<|γ U<|δ (aj (g (bad ?_) _ _ _ f));by_cases hb:s[i].toNat<128
    ·have:=(R.lo hb).1;simp only[lJ,Bool.and_eq_false_iff,gT];omega
    ·exact l (by omega)
   ·refine ε<|γ U<|aH U U<|γ U<|ζ U (by simp<;>omega)<|γ U<|ζ U (by simp<;>omega)<|dH U U<|aW U (by simp<;>omega) U<|δ ?_;by_cases y:57<r
    ·refine ax U (by simp<;>omega) ?_;refine ε<|γ U<|δ (aj (g (bad ?_) _ _ _ f));by_cases hb:s[i].toNat<128
     ·have:=(R.lo hb).1;simp only[lJ,Bool.and_eq_false_iff,gT];omega
     ·exact l (by omega)
    ·refine az U (by simp<;>omega)<|ay ?_;have hb:s[i].toNat<128:=by
      by_cases hb:s[i].toNat<128
      ·exact hb
      ·have:=(R.hi (by omega)).1;omega
     obtain⟨z,A⟩:=R.lo hb;refine au (ih (i+w) h1 n (by omega) R.le t f (λj hj B=>?_)) (Θ.rf U);by_cases v:j<i
     ·exact a j hj v
     ·have:j=i:=by omega
      subst this;simp only[lJ,aD,cC];omega
  ·refine ε<|zX U hb (by omega)<|bU U U<|δ ?_;refine φ<|az U U<|bG (k (kX.2 λc d=>?_) _ _ _ e (Θ.rf U));obtain⟨j,hj,rfl⟩:=fD d;exact a j hj (by omega)
def F1(d:Cd C){s:S}(hl:s.length<1000000)(c:∀h' n',Ext h n h' n'->Q (.b (!decide (s.length=0)&&s.all lJ)) h' n'):μ C (.f 180 [] []) [st s] h n Q:=by
 refine μ.go d.f180 U ?_;refine ε<|γ U<|δ ?_;refine φ<|ε<|γ U<|Fp U <| λh1 n1 l g i=>δ ?_;refine aA<|au (ajC hl (b:=n) (h0:=h) (n0:=n) (ξ _) (λa E h' n' e=>⟨_,rfl,by have:=c h' n' e;rw[a,Bool.and_false]at this;exact this⟩) (λa E h' n' e hs=>dO hs ?_) _ 0 h1 n1 (ξ _) (by omega) g i (λj hj h=>by omega)) (Θ.rf U);refine ε<|γ U<|qy (b:=[]) U U<|γ U<|δ (aj ⟨_,rfl,?_⟩);have:=c h' n' e;rw[a,Bool.and_true]at this;have k:decide (s=[])=decide (s.length=0):=by cases s<;>simp
 rw[k];exact this
def ajD{t:S}(h:0<t.length):qN t=t[0].toNat:=by
 cases t with
 | nil=>simp at h
 | cons=>rfl
def CN(g:Cd C){s:S}(hl:s.length<1000000)(p:∀h' n',Ext h n h' n'->Q (.i .i64 (jt s)) h' n'):μ C (.f 102 [] []) [st s] h n Q:=by
 refine μ.go g.f102 U ?_;refine ε<|γ U<|δ ?_;refine ε<|γ U<|ah U U<|TF g<|γ U<|bU U U<|bU U U<|γ U<|γ U<|δ ?_;have A:=Kl s;have key:qA s=((!decide ((body s).length=0)&&(body s).all lJ)&&!(decide (qN (body s)=48)&&(isNeg s||decide (1<(body s).length)))):=by
  unfold qA;have w:decide (s=[45,48])=(isNeg s&&(decide ((body s).length=1)&&decide (qN (body s)=48))):=by
   match s with
   | []=>rfl
   | [c]=>simp[isNeg,body];intro h;simp[h]
   | [c,d]=>
    by_cases k:c.toNat=45
    ·have:c=45:=UInt8.toNat_inj.1 k;subst this;have a:(d=48)↔d.toNat=48:=⟨λh=>by rw[h];rfl,λh=>UInt8.toNat_inj.1 h⟩;simp[isNeg,body,qN,a]
    ·have:c≠45:=λe=>k (by rw[e];rfl);simp[isNeg,k,this]
   | c::d::e::l=>
    have:1<(body (c::d::e::l)).length:=by simp only[body];split<;>simp
    have h2:¬ (body (c::d::e::l)).length=1:=by omega
    simp[h2]
  rw[w];cases hs:body s with
  | nil=>simp
  | cons x l=>
   by_cases h1:x.toNat=48<;>cases isNeg s<;>by_cases y:l.length=0<;>cases ((x::l).all lJ)<;>simp[qN,h1,y]<;>first | omega | skip
 have q:jt s=if (!qA s)=true then 1 else if 120<(body s).length then 4 else 0:=by unfold jt;cases qA s<;>rfl
 have m:qA s=false->∀h' n',Ext h n h' n'->Q (.i .i64 1) h' n':=λhf h' n' e=>by have:=p h' n' e;rw[q,hf]at this;exact this
 have r:qA s=true->∀h' n',Ext h n h' n'->Q (.i .i64 (if decide ((120:Int)<((body s).length:Nat)) then 4 else 0)) h' n':=λhf h' n' e=>by
  have:=p h' n' e;rw[q,hf]at this;have z:((120:Int)<((body s).length:Nat))↔120<(body s).length:=by omega
  simp only[cC,z];exact this
 by_cases a:(!decide ((body s).length=0)&&(body s).all lJ)=true
 ·have h0:(body s).length≠0:=by simp at a;exact λe=>a.1 (List.eq_nil_of_length_eq_zero e)
  have o:0<(body s).length:=by omega
  have t:qN (body s)=(body s)[0].toNat:=ajD _;rw[a,tP]at key;by_cases u:(body s)[0].toNat=48
  ·rw[t,qb u,tP]at key;by_cases b:isNeg s=true
   ·rw[b,Bool.true_or]at key;refine φ<|ε<|γ U<|ah U U<|F1 g (by omega) <| λh1 n1 j=>cz U<|γ U<|ζ U (congrArg not a)<|γ U<|ζ U (congrArg not a)<|zV U U o<|ζ U (congrArg not a)<|dD U U<|ζ U (congrArg not a)<|γ U<|ζ U (by simp<;>omega)<|γ U<|ζ U (by simp<;>omega)<|γ U<|θ U (b)<|θ U (b)<|θ U (b)<|ζ U (by simp<;>omega)<|bh U (b) U<|ζ U (congrArg not a)<|bh U (by simp<;>omega) U<|aW U (congrArg not a) U<|δ ?_;refine ax U U ?_;refine ε<|γ U<|δ (aj ⟨_,rfl,m key _ _ j⟩)
   ·simp only[sN]at b;rw[b,Bool.false_or]at key;refine φ<|ε<|γ U<|ah U U<|F1 g (by omega) <| λh1 n1 j=>cz U<|γ U<|ζ U (congrArg not a)<|γ U<|ζ U (congrArg not a)<|zV U U o<|ζ U (congrArg not a)<|dD U U<|ζ U (congrArg not a)<|γ U<|ζ U (by simp<;>omega)<|γ U<|ζ U (by simp<;>omega)<|γ U<|ζ U (b)<|γ U<|ζ U (b)<|du U<|ζ U (b)<|dH U U<|ζ U (by simp<;>omega)<|aW U (b) U<|ζ U (congrArg not a)<|bh U (by simp<;>omega) U<|aW U (congrArg not a) U<|δ ?_;by_cases v:1<(body s).length
    ·rw[qb v]at key;refine ax U (by simp<;>omega) ?_;refine ε<|γ U<|δ (aj ⟨_,rfl,m key _ _ j⟩)
    ·rw[fB v]at key;refine az U (by simp<;>omega)<|ay ?_;refine ε<|γ U<|du U<|dH U U<|ah U U<|nI g.f181<|γ U<|δ (aj ⟨_,rfl,r key _ _ j⟩)
  ·rw[t,fB u,vO]at key;refine φ<|ε<|γ U<|ah U U<|F1 g (by omega) <| λh1 n1 j=>cz U<|γ U<|ζ U (congrArg not a)<|γ U<|ζ U (congrArg not a)<|zV U U o<|ζ U (congrArg not a)<|dD U U<|ζ U (congrArg not a)<|γ U<|θ U (by simp<;>omega)<|θ U (by simp<;>omega)<|fI U<|fI U<|fI U<|θ U (by simp<;>omega)<|ζ U (congrArg not a)<|aW U (by simp<;>omega) U<|aW U (congrArg not a) U<|δ ?_;refine az U (by simp<;>omega)<|ay ?_;refine ε<|γ U<|du U<|dH U U<|ah U U<|nI g.f181<|γ U<|δ (aj ⟨_,rfl,r key _ _ j⟩)
 ·simp only[sN]at a;rw[a,vO]at key;refine φ<|ε<|γ U<|ah U U<|F1 g (by omega) <| λh1 n1 j=>cz U<|γ U<|θ U (congrArg not a)<|θ U (congrArg not a)<|θ U (congrArg not a)<|θ U (congrArg not a)<|fI U<|fI U<|fI U<|fI U<|fI U<|fI U<|θ U (congrArg not a)<|bh U (congrArg not a) U<|δ ?_;refine ax U U ?_;refine ε<|γ U<|δ (aj ⟨_,rfl,m key _ _ j⟩)
def KQ{s:S}:oG s=decide (0<=bI 47 s):=by
 have:oG s=true↔0<=bI 47 s:=by rw[Jx];simp[oG]
 cases h:oG s with
 | true=>exact(qb (this.1 h)).symm
 | false=>exact(fB λe=>by rw[this.2 e]at h;cases h).symm
def TH(a:Cd C){s:S}(b:Q (.i .i64 (bI 47 s)) h n):μ C (.f 257 [] []) [st s,st [47]] h n Q:=by
 refine μ.go a.f257 U ?_;refine ε<|γ U<|δ ?_;refine ε<|γ U<|du U<|γ U<|δ ?_;refine φ<|aA ?_;refine ε<|γ U<|dD U U<|γ U<|ζ U (rfl)<|γ U<|ζ U (rfl)<|γ U<|ζ U (rfl)<|iS U U<|aW U (rfl) U<|γ U<|δ ?_;by_cases h1:s=[47]
 ·refine ax U (by rw[h1];rfl) ?_;subst h1;refine ε<|γ U<|δ (aj ⟨_,rfl,b⟩)
 ·refine az U (fB (Ne.symm h1)) ?_;refine ε<|γ U<|dD U U<|γ U<|δ ?_;refine ax U U ?_;refine ε<|γ U<|γ U<|zV U U (by simp)<|ah U U<|Tz a (c:=47) (by omega)<|γ U<|δ (aj ⟨_,rfl,b⟩)
def ajE(a:Cd C){s:S}(b:Q (.i .i64 (bI 47 s)) h n):μ C (.f 247 [] []) [st s,st [47]] h n Q:=by refine μ.go a.f247 U ?_;refine ε<|γ U<|δ ?_;refine ε<|γ U<|γ U<|ah U U<|TH a<|γ U<|δ (aj ⟨_,rfl,b⟩)
def ajF(a:Cd C){s:S}(c:Q (.b (oG s)) h n):μ C (.f 182 [] []) [st s,st [47]] h n Q:=by refine μ.go a.f182 U ?_;refine ε<|γ U<|δ ?_;refine ε<|γ U<|γ U<|ah U U<|ajE a<|iC U U<|γ U<|δ (aj ⟨_,rfl,by rw[KQ]at c;exact c⟩)
def pH(s:S):V:=match cutAt s with
 | some (p,q)=>.u [st p,st q,.b true]
 | none=>.u [st s,st [],.b false]
def TJ(c:Cd C){s:S}(hl:s.length<1000000)(a:Q (pH s) h n):μ C (.f 201 [] []) [st s,st [47]] h n Q:=by
 refine μ.go c.f201 U ?_;refine ε<|γ U<|γ U<|γ U<|δ ?_;refine φ<|ε<|γ U<|γ U<|ah U U<|TH c<|γ U<|δ ?_;by_cases hb:0<=bI 47 s
 ·obtain⟨j,hj,d,g,i⟩:=aff hb;have b:cutAt s=some (s.take j,s.drop (j+1)):=ahT d (by
   cases l:oG (s.take j) with
   | false=>rfl
   | true=>
    obtain⟨x,m,e⟩:=Jx.1 (of_decide_eq_true (KQ (s:=s.take j)▸l));obtain⟨k,o,rfl⟩:=fD m;rw[List.getElem_take]at e;simp only[ov]at o;exact absurd e (i k (by omega) (by omega))) g
  unfold pH at a;rw[b]at a;rw[hj];refine ε<|γ U<|iC U U<|δ ?_;refine ax U (by simp) ?_;have p:List.take (j - 0) (List.drop 0 s)=s.take j:=by simp
  have q:List.take (s.length - (j+1)) (List.drop (j+1) s)=s.drop (j+1):=ot (by simp);refine eT<|aI U<|aI U<|Ja U U U (by omega) (by omega)<|aI U<|aI U<|aI U<|acV U<|Fs U U ((show((j:Nat):Int)+(([47]:S).length:Nat)=((j+1:Nat):Int) by simp)) ⟨by omega,by omega⟩<|Ja U U U (by omega) (by omega)<|aI U<|aI U<|aI U<|df (by simp[AG,nE,pS,Nat.testBit]) ?_;refine aj ⟨_,rfl,?_⟩;rw[p,q];exact a
 ·have b:cutAt s=none:=S0 (by rw[KQ];simpa using hb);unfold pH at a;rw[b]at a;refine ε<|γ U<|iC U U<|δ ?_;refine az U (by simpa using hb)<|ay ?_;refine ε<|γ U<|γ U<|γ U<|γ U<|δ (aj ⟨_,rfl,a⟩)
def TK(d:Cd C){s:S}(hl:s.length<1000000)(a:Q (pH s) h n):μ C (.f 126 [] []) [st s,st [47]] h n Q:=by
 refine μ.go d.f126 U ?_;refine ε<|γ U<|γ U<|γ U<|δ ?_;unfold pH at a;cases c:cutAt s with
 | none=>
  rw[c]at a;have hv:pH s=.u [st s,st [],.b false]:=by unfold pH;rw[c]
  have key:∀{Q:V->Hf->K->Prop},Q (.u [st s,st [],.b false]) h n->μ C (.f 201 [] []) [st s,st [47]] h n Q:=λa=>TJ d hl (by rw[hv];exact a);refine ε<|γ U<|γ U<|ah U U<|key<|bU U U<|bU U U<|bU U U<|γ U<|γ U<|γ U<|δ (aj ⟨_,rfl,a⟩)
 | some e=>
  obtain⟨p,q⟩:=e;rw[c]at a;have hv:pH s=.u [st p,st q,.b true]:=by unfold pH;rw[c]
  have key:∀{Q:V->Hf->K->Prop},Q (.u [st p,st q,.b true]) h n->μ C (.f 201 [] []) [st s,st [47]] h n Q:=λa=>TJ d hl (by rw[hv];exact a);refine ε<|γ U<|γ U<|ah U U<|key<|bU U U<|bU U U<|bU U U<|γ U<|γ U<|γ U<|δ (aj ⟨_,rfl,a⟩)
end
section
variable {C:Nat->Option aE}{h:Hf}{n:K}{Q:V->Hf->K->Prop}
def eN{v:V}(h:v.one=true):aB [v]=true:=by simp only[aB,h];rfl
def CO(d:Cd C){v:V}{l:List Nat}(hv:bB h n .u32 v l)(hlen:l.length<1000000)(e:∀h' n',Ext h n h' n'->Q (.b (decide (l.length=0))) h' n'):μ C (.f 185 [] []) [.a [v]] h n Q:=by refine μ.go d.f185 U ?_;refine ε<|eL U U (eN hv.one) <| λh1 n1 i g c=>γ U<|δ ?_;refine ε<|χ U<|ν U (cH g rfl _)<|aJ U (hv.ext c)<|dD U U<|γ U<|δ (aj ⟨_,rfl,?_⟩);have:=e _ _ c;rw[show decide (((l.length:Nat):Int)=0)=decide (l.length=0) from by by_cases h:l.length=0<;>simp[h]];exact this
def ajG(j:Cd C){v:V}{l:List Nat}(hv:bB h n .u32 v l)(hlen:l.length<1000000)(i:∀h' n',Ext h n h' n'->Q (.b (decide (l=[1]))) h' n'):μ C (.f 187 [] []) [.a [v]] h n Q:=by
 refine μ.go j.f187 U ?_;refine ε<|eL U U (eN hv.one) <| λh1 n1 k d g=>γ U<|δ ?_;have c:=hv.ext g;by_cases h1:l.length=1
 ·have h0:0<l.length:=by omega
  refine ε<|χ U<|ν U (cH d rfl _)<|aJ U c<|dD U U<|γ U<|ζ U (by simp[h1])<|χ U<|ζ U (by simp[h1])<|ν U (cH d rfl _)<|ζ U (by simp[h1])<|aV U U c h0<|ζ U (by simp[h1])<|ν U (c.get h0 _)<|ζ U (by simp[h1])<|dD U U<|bh U (by simp[h1]) U<|γ U<|δ (aj ⟨_,rfl,?_⟩);have:=i _ _ g;rw[show decide (((l[0]:Nat):Int)=1)=decide (l=[1]) from by
   match l,h1 with
   | [x],_=>by_cases h:x=1<;>simp[h];omega]
  exact this
 ·refine ε<|χ U<|ν U (cH d rfl _)<|aJ U c<|dD U U<|γ U<|θ U (by simp<;>omega)<|θ U (by simp<;>omega)<|θ U (by simp<;>omega)<|θ U (by simp<;>omega)<|θ U (by simp<;>omega)<|aW U (by simp<;>omega) U<|γ U<|δ (aj ⟨_,rfl,?_⟩);have:=i _ _ g;rw[show decide (l=[1])=false from fB λe=>h1 (by rw[e];rfl)]at this;exact this
def TL(d:Cd C){a b:Nat}(c:Q (.i .i64 (jc a b)) h n):μ C (.f 313 [] []) [iN a,iN b] h n Q:=by
 refine μ.go d.f313 U ?_;refine ε<|γ U<|δ ?_;refine φ<|ε<|γ U<|γ U<|aH U U<|δ ?_;unfold jc at c;by_cases h1:a<b
 ·rw[ab h1]at c;refine ax U (by simp<;>omega) ?_;refine ε<|γ U<|δ (aj ⟨_,rfl,c⟩)
 ·rw[Γ h1]at c;refine az U (by simp<;>omega)<|ay ?_;refine φ<|ε<|γ U<|γ U<|dH U U<|δ ?_;by_cases h2:b<a
  ·rw[ab h2]at c;refine ax U (by simp<;>omega) ?_;refine ε<|γ U<|δ (aj ⟨_,rfl,c⟩)
  ·rw[Γ h2]at c;refine az U (by simp<;>omega)<|ay ?_;refine ε<|γ U<|δ (aj ⟨_,rfl,c⟩)
def KS(d:Cd C){v:V}{l:List Nat}{b:K}(hv:bB h n .u32 v l)(hlen:l.length<1000000)(hb:Cl h n b [.i .u32 0] 309)(a:Q (.b (decide (0<l.length/\l.getD (l.length - 1) 1=0))) h n):μ C (.f 287 [] [.p b 0]) [v] h n Q:=by
 refine μ.go d.f287 U ?_;refine ε<|γ U<|δ ?_;by_cases h1:0<l.length
 ·have c:l.length - 1<l.length:=by omega
  have g1:=hv.get c 1;have g:bc h false 1 (.p b 0)=some (.i .u32 0):=hb.ld U 1;refine eT<|aI U<|Cf U hv<|zU U U<|aI U<|cG U (by simp<;>omega)<|aI U<|cG U (by simp<;>omega)<|aI U<|cG U (by simp<;>omega)<|Cf U hv<|cG U (by simp<;>omega)<|zY U U ((show((l.length:Nat):Int) - 1=((l.length - 1:Nat):Int) by omega)) ⟨by omega,by omega⟩<|cG U (by simp<;>omega)<|js U U hv c<|cG U (by simp<;>omega)<|aO U g1 U (by simp[dK,qn,dP,xE])<|cG U (by simp<;>omega)<|aO U g U (by simp[dK,qn,dP,xE])<|cG U (by simp<;>omega)<|zT U U<|Ch U (by simp<;>omega) U<|aI U<|df (by simp[AG,nE,pS,Nat.testBit]) ?_;refine aj ⟨_,rfl,?_⟩;have e:l.getD (l.length - 1) 1=l[l.length - 1]:=by rw[dY,aX c];rfl
  rw[e]at a;rw[show decide (((l[l.length - 1]:Nat):Int)=0)=decide (0<l.length/\l[l.length - 1]=0) from by by_cases h:l[l.length - 1]=0<;>simp[h]<;>omega]
  exact a
 ·have e:decide (0<l.length/\l.getD (l.length - 1) 1=0)=false:=fB λe=>h1 e.1;rw[e]at a;refine eT<|aI U<|Cf U hv<|zU U U<|aI U<|eK U (fB (show ¬ (0:Int)<((l.length:Nat):Int) by omega))<|eK U (fB (show ¬ (0:Int)<((l.length:Nat):Int) by omega))<|eK U (fB (show ¬ (0:Int)<((l.length:Nat):Int) by omega))<|eK U (fB (show ¬ (0:Int)<((l.length:Nat):Int) by omega))<|eK U (fB (show ¬ (0:Int)<((l.length:Nat):Int) by omega))<|eK U (fB (show ¬ (0:Int)<((l.length:Nat):Int) by omega))<|eK U (fB (show ¬ (0:Int)<((l.length:Nat):Int) by omega))<|eK U (fB (show ¬ (0:Int)<((l.length:Nat):Int) by omega))<|xW U (fB (show ¬ (0:Int)<((l.length:Nat):Int) by omega)) U<|aI U<|df (by simp[AG,nE,pS,Nat.testBit]) ?_;exact aj ⟨_,rfl,a⟩
def ajH(k:Cd C){v0:V}{l:List Nat}{b:K}(hlen:l.length<1000000){Q1:Ex->Env->Hf->K->Prop}(hb:Cl h n b [.i .u32 0] 309){n0:K}(o:n0.num<=n.num)
 (a:∀v' E',bB h n0 .u32 v' (eM l)->v'.blk=v0.blk->(v0=.ns->v'=.ns)->Θ [(k0,v')] E'->Q1 .normal E' h n):
 ∀(m:Nat) (v:V),m<=l.length->bB h n0 .u32 v (l.take m)->v.blk=v0.blk->(v0=.ns->v=.ns)->eM l=eM (l.take m)->WC C aeX [(k0,v),(k4,.f 287 [] [.p b 0])] h n (blk 0 Q1):=by
 intro m
 induction m with
 | zero=>
  intro v hm hv d g hs;have c:∀{Q:V->Hf->K->Prop},Q (.b false) h n->μ C (.f 287 [] [.p b 0]) [v] h n Q:=λa=>KS k (hv.up o) (by simp<;>omega) hb (by simpa using a);refine aF ?_;refine φ<|ε<|γ U<|γ U<|ah U U<|c<|δ ?_;refine az U U<|bG (a v _ (by rw[hs];simpa[eM]using hv) d g (Θ.rf U))
 | succ m ih=>
  intro v hm hv d g hs;have q:m<l.length:=by omega
  have j:(l.take (m+1)).length=m+1:=by simp<;>omega
  have r:(l.take (m+1)).getD ((l.take (m+1)).length - 1) 1=l[m]:=by rw[j,Nat.add_sub_cancel,dY,aX (by rw[j];omega),List.getElem_take];rfl
  refine aF ?_;by_cases h0:l[m]=0
  ·have c:∀{Q:V->Hf->K->Prop},Q (.b true) h n->μ C (.f 287 [] [.p b 0]) [v] h n Q:=λa=>KS k (hv.up o) (by omega) hb (by rw[r,j];simpa[h0]using a);refine φ<|ε<|γ U<|γ U<|ah U U<|c<|δ ?_;refine ax U U<|ay ?_;refine aA<|aP<|γ U<|γ U<|aJ U hv<|py U U ((show(((l.take (m+1)).length:Nat):Int) - 1=((m:Nat):Int) by omega)) ⟨by omega,by omega⟩<|Fk U hv U U (by omega) ((by omega)) <| λs t l2=>γ U<|δ ?_;refine au (ih s (by omega) ?_ (by rw[l2.2.1,d]) (λe=>l2.2.2 (g e)) (by rw[hs,air q h0])) (Θ.rf U);have:=bB.sub t (by omega);rw[ig,mY,List.take_take,qf (by omega)]at this;exact this
  ·have c:∀{Q:V->Hf->K->Prop},Q (.b false) h n->μ C (.f 287 [] [.p b 0]) [v] h n Q:=λa=>KS k (hv.up o) (by omega) hb (by rw[r,j];simpa[h0]using a);refine φ<|ε<|γ U<|γ U<|ah U U<|c<|δ ?_;refine az U U<|bG (a v _ (by rw[hs,ais q h0];exact hv) d g (Θ.rf U))
def ajJ(a:Cd C){v:V}{l:List Nat}{n0:K}(hv:bB h n0 .u32 v l)(hlen:l.length<1000000)(b:∀v',bB h n0 .u32 v' l->v'.blk=v.blk->(v=.ns->v'=.ns)->Q v' h n):μ C (.f 288 [] []) [v] h n Q:=by refine μ.go a.f288 U ?_;refine ε<|γ U<|δ ?_;refine ε<|γ U<|γ U<|aJ U hv<|γ U<|aJ U hv<|ady U hv U U <| λc d l2=>γ U<|δ (aj ⟨_,rfl,b c d l2.2.1 l2.2.2⟩)
def wz(a:Cd C){v:V}{l:List Nat}{n0:K}(t:n0.num<=n.num)(hv:bB h n0 .u32 v l)(hlen:l.length<1000000)(d:∀v' h' n',Ext h n h' n'->bB h' n0 .u32 v' (eM l)->v'.blk=v.blk->(v=.ns->v'=.ns)->Q v' h' n'):μ C (.f 250 [] []) [v] h n Q:=by refine μ.go a.f250 U ?_;refine ε<|γ U<|δ ?_;refine ε<|bN <| λh1 n1 u g c=>δ ?_;have j:bB h1 n0 .u32 v l:=hv.at_ (c.trans' (ξ _) (λ_ _=>rfl) |> λx=>⟨by have:=x.1;omega,λk w=>c.2 k (by omega)⟩);refine ε<|rD U U<|γ U<|δ ?_;refine φ<|aA<|au (ajH a hlen (b:=n) ⟨by omega,g⟩ (n0:=n0) (by omega) (λv' E' i hb m o=>dO o ?_) l.length v (ξ _) (by rw[fO];exact j) U id (by rw[fO])) (Θ.rf U);have y:=CE l;refine ε<|γ U<|ah U U<|ajJ a i (by omega) <| λp q r s=>γ U<|δ (aj ⟨_,rfl,d p _ _ c q (by rw[r,hb]) (λe=>s (m e))⟩)
def Ap(j:Cd C){v:V}{l:List Nat}{i:Nat}(hv:bB h n .u32 v l)(hs:Sm 1000000000 l)(hlen:l.length<1000000)(b:∀h' n',Ext h n h' n'->Q (.i .u64 (l.getD i 0:Nat)) h' n'):μ C (.f 293 [] []) [.a [v],iN i] h n Q:=by
 refine μ.go j.f293 U ?_;refine ε<|eL U U (eN hv.one) <| λh1 n1 k g c=>γ U<|δ ?_;have d:=hv.ext c;refine φ<|ε<|γ U<|χ U<|ν U (cH g rfl _)<|aJ U d<|aH U U<|δ ?_;by_cases hi:i<l.length
 ·refine ax U (by simp<;>omega) ?_;have m:=hs.get hi;have e:=pD hi;rw[e]at b;refine ε<|χ U<|ν U (cH g rfl _)<|γ U<|aV U U d hi<|ν U (d.get hi _)<|nF U ⟨by omega,by omega⟩<|γ U<|δ (aj ⟨_,rfl,b _ _ c⟩)
 ·refine az U (by simp<;>omega)<|ay ?_;have e:l.getD i 0=0:=by rw[dY,ml (by omega)];rfl
  rw[e]at b;refine ε<|γ U<|δ (aj ⟨_,rfl,b _ _ c⟩)
end
section
variable {C:Nat->Option aE}{h:Hf}{n:K}{Q:V->Hf->K->Prop}
abbrev Bg:Nat:=1000000000
def bB.toI{k:IntKind}{v:V}{l:List Nat}(a:bB h n k v l):fh h n k v (l.map λ(x:Nat)=>(x:Int)):=by have:κ h n 1 v l.length (nC k l):=a;rw[Q6]at this;unfold fh;rw[ji];exact this
def KT(d:Cd C){t:V}{ik:IntKind}{l:List Nat}(ht:bB h n ik t l)(hlen:l.length<1000000)
 (g:∀b e h' n',Ext h n h' n'->h' b=some (.c [t] e 0)->b.num<n'.num->n.num<=b.num->Iter C (.f 314 [] [.p b 0]) (λh n=>b.num<n.num/\h b=some (.c [t] e 0)/\bB h n ik t l) (uF (λj=>.i ik (l.getD j 0:Nat)) l.length)->Q (.f 314 [] [.p b 0]) h' n'):μ C (.f 292 [] []) [t] h n Q:=by
 refine ah4 d ht.toI (by simpa using hlen) (λj=>.i ik (l.getD j 0:Nat)) (λi hi=>by rw[ji]at hi;simp[dY,hi]) ?_;intro b e h' n' k m h1 h2 it;refine g b e h' n' k m h1 h2 ?_;have:(λ(h:Hf) (n:K)=>b.num<n.num/\h b=some (.c [t] e 0)/\bB h n ik t l) = λh n=>b.num<n.num/\h b=some (.c [t] e 0)/\fh h n ik t (l.map λ(x:Nat)=>(x:Int)):=by funext h n;unfold bB fh;rw[ji,Q6]
 rw[this];rw[ji]at it;exact it
def TM(s:Cd C){va vb:V}{a b:List Nat}(nY:a.length<1000)(lU:b.length<1000)(x:gZ Bg a)(hb:gZ Bg b)(J:bB h n .u32 va a)(ib:bB h n .u32 vb b)(y:∀h' n',Ext h n h' n'->Q (.i .i64 (jc (val Bg a) (val Bg b))) h' n'):μ C (.f 289 [] []) [.a [va],.a [vb]] h n Q:=by
 refine μ.go s.f289 U ?_;refine ε<|eL U U (eN J.one) <| λh1 n1 dd P R=>eL U U (eN ib.one) <| λh2 t iw S L=>bN <| λm o kh T z=>δ ?_;have q:=(R.trans L).trans z;have c2:Cl m o n [va] 252:=Cl.ext (Cl.ext ⟨by omega,P⟩ L) z;have c3:Cl m o n1 [vb] 252:=Cl.ext ⟨by omega,S⟩ z;have c4:Cl m o t [.i .i64 0] 3:=⟨by omega,T⟩;have u:=J.ext q;have A:=ib.ext q;refine φ<|ε<|χ U<|ν U (c2.ld U _)<|aJ U u<|χ U<|ν U (c3.ld U _)<|aJ U A<|fJ U U<|δ ?_;by_cases hl:a.length=b.length
 ·refine az U (by simp[hl])<|ay ?_;refine φ<|ε<|χ U<|ν U (c2.ld U _)<|ah U U<|KT s u (by omega) ?_;intro M e h4 B N W pg gH it;refine δ ?_;have y4:=N.1;let I:Nat->Hf->K->Prop:=λj h' n'=>Ext m o h' n'/\(M.num<n'.num/\h' M=some (.c [va] e 0))/\a.drop (a.length - j)=b.drop (a.length - j);let D:Ex->Hf->K->Prop:=λex h' n'=>ex=.ret/\∃h1,Ext m o h1 n'/\h' t=some (.c [.i .i64 (jc (val Bg a) (val Bg b))] 3 0)/\bA t h1 h';refine aA<|tj U it I D ?_ ?_ ?_ ?_ ?_ ?_ ?_ ?_
  ·rintro j h1 n1 h' n' ⟨g1,⟨d,k⟩,g⟩ ex;exact⟨g1.trans ex,⟨eE d ex.1,by rw[ex.2 _ d];exact k⟩,g⟩
  ·rintro j h1 n1 h' ⟨g1,⟨d,k⟩,g⟩ l;exact⟨g1.Ξ l (by omega),⟨d,by rw[l _ (by omega)];exact k⟩,g⟩
  ·rintro j h1 n1 ⟨g1,d,_⟩;exact⟨d.1,d.2,u.ext g1⟩
  ·intro j hj;rw[qD];rfl
  ·intro h' l;have KM:B.succ.num=B.num+1:=K.eI B;exact⟨(N.Ξ l (by omega)).succ,⟨by omega,by rw[l _ (by omega)];exact W⟩,by rw[mY,oS,hl,oS]⟩
  ·rintro j hj h5 X E1 v ⟨g1,⟨d,k⟩,g⟩ E;have bR:j<a.length:=by rw[nJ]at hj;exact hj
   rw[qD]at E;simp only[jF,kV]at E;subst E;have hi:a.length - 1 - j<a.length:=by omega
   have p:a.length - 1 - j<b.length:=by omega
   rw[show a.length - j=(a.length - 1 - j)+1 by omega]at g;have Y:a.length - (j+1)=a.length - 1 - j:=by omega
   generalize a.length - 1 - j=i at*;rw[pD hi];refine ε<|γ U<|δ<|aP<|γ U<|δ ⟨rfl,rfl,λF b7=>?_⟩;have r:Ext m o F X:=g1.Ξ b7 (by omega);have w:=A.ext r;have O:=c3.ext r;have Z:=c4.ext r;have q1:a[i]<Bg:=x.1.get hi;have q2:b[i]<Bg:=hb.1.get p;simp only[Bg]at q1 q2;refine aA<|ε<|γ U<|χ U<|ν U (O.ld U _)<|γ U<|aV U U w p<|ν U (w.get p _)<|fJ U U<|δ ?_;by_cases he:a[i]=b[i]
   ·refine az U (by simp<;>omega)<|ay ⟨v,rfl,r,⟨d,by rw[b7 _ (by omega)];exact k⟩,?_⟩;rw[Y,gL hi,gL p,g,he]
   ·refine ax U (by simp<;>omega) ?_;have G:=ahO x.1 hb.1 hl hi g he;refine ε<|γ U<|nF U ⟨by omega,by omega⟩<|χ U<|ν U (O.ld U _)<|γ U<|aV U U w p<|ν U (w.get p _)<|nF U ⟨by omega,by omega⟩<|ah U U<|TL s<|aR U U Z.2 U <| λh8 H b8=>δ ?_;exact aj ⟨v,b8 _ (by omega),rfl,F,r,by rw[G];exact H,b8⟩
  ·rintro h' n' v ⟨g1,⟨d,k⟩,g⟩;rw[nJ,kY,ig,ig]at g;subst g;refine ε<|aR U U ((c4.ext g1).2) U <| λF a7 b7=>δ ?_;refine aj ⟨_,jI rfl (cH a7 rfl _),?_⟩;have:=y _ _ ((q.trans g1).Ξ b7 (by omega));rw[ahP]at this;exact this
  ·rintro ex h' n' nG v ⟨rfl,pO,g1,d,k⟩ l;refine⟨_,jI rfl (cH (show nG t=_ by rw[l _ (by omega)];exact d) U _),?_⟩;exact y _ _ (((q.trans g1).Ξ k (by omega)).Ξ l (by omega))
 ·have G:=ahN x hb (by decide) hl;refine ax U (by simp<;>omega) ?_;refine ε<|χ U<|ν U (c2.ld U _)<|aJ U u<|χ U<|ν U (c3.ld U _)<|aJ U A<|ah U U<|TL s<|aR U U c4.2 U <| λh8 H b8=>δ ?_;refine aj ⟨_,jI rfl (cH H rfl _),?_⟩;rw[←G];exact y _ _ (q.Ξ b8 (by omega))
def kK{v:V}(h:bz n v=true):bz n (.a [v])=true:=by simp[bz,gG,h]
def kL{v:V}(h:dK v v=true):dK (.a [v]) (.a [v])=true:=by simp[dK,lf,h]
def ajK{α:Type}{l:List α}{i:Nat}{x:α}:(l.set i x).take i=l.take i:=by
 apply qg
 ·simp
 ·intro j h1 h2;simp only[ov,j5]at h1;simp only[List.getElem_take];rw[zi (by omega)]
def TN{α:Type}{l:List α}{i:Nat}{x:α}:(l.set i x).drop (i+1)=l.drop (i+1):=by
 apply qg
 ·simp
 ·intro j h1 h2;simp only[List.getElem_drop];rw[zi (by omega)]
section
variable {h0:Hf}{n0 b3 bo:K}{x2 x4 vb:V}{a b:List Nat}
structure Ls(h0:Hf)(n0:K)(h:Hf)(n:K)(b3 bo:K)(vb:V)(L:Nat)(out:List Nat):Prop where
 ext:Ext h0 n0 h n
 c3:Cl h n b3 [vb] 252
 co:Cl h n bo (nC .u32 out) 309
 lo:n0.num<=bo.num
 DU:b3.num≠bo.num
 len:out.length=L
def ajL(z:Cd C)(N:a.length<1000)(O:b.length<1000)(A:Sm Bg a)(hb:Sm Bg b)(ib:bB h0 n0 .u32 vb b){Q1:Ex->Env->Hf->K->Prop}:
 ∀(m i:Nat) (out:List Nat) (bw:Nat) (h:Hf) (n:K),a.length - i=m->i<=a.length->Ls h0 n0 h n b3 bo vb a.length out->Sm Bg out->out.drop i=a.drop i->bw<=1->val Bg (out.take i)+val Bg (b.take i)=val Bg (a.take i)+bw*Bg ^ i->(∀(out:List Nat) (bw:Nat) (h:Hf) (n:K) E',Ls h0 n0 h n b3 bo vb a.length out->Sm Bg out->bw<=1->val Bg out+val Bg (b.take a.length)=val Bg a+bw*Bg ^ a.length->Θ [(k4,x4),(k5,.sl bo 0 a.length a.length)] E'->Q1 .normal E' h n)->WC C RM [(k3,.p b3 0),(k4,x4),(k5,.sl bo 0 a.length a.length),(k6,iN bw),(vD,iN a.length),(sy,iN i)] h n (blk 0 Q1):=by
 intro m
 induction m with
 | zero=>
  intro i out bw h n hm hi p hs k v hv o;have e:i=a.length:=by omega
  subst e;refine aF ?_;refine ε<|aH U U<|δ ?_;refine φ<|az U (by simp)<|bG ?_;rw[fO,ot (by rw[p.len];omega)]at hv;exact o out bw h n _ p hs v hv (Θ.rf U)
 | succ m ih=>
  intro i out bw h n hm hi p hs r v hv o;have q:i<a.length:=by omega
  have c:i<out.length:=by rw[p.len];exact q
  have io:bB h n .u32 (.sl bo 0 a.length a.length) out:=p.co.vG p.len;have t:=(ib.at_ p.ext).up p.ext.1;have heq:out[i]=a[i]:=by rw[gL c,gL q]at r;injection r
  have g1:bc h false 1 (.p (V.sl bo 0 a.length a.length).blk ((V.sl bo 0 a.length a.length).off+i*1))=some (.i .u32 (out[i]:Nat)):=io.get c 1;have w:∀{h'} {n'},Ext h n h' n'->bc h' false 1 (.p (V.sl bo 0 a.length a.length).blk ((V.sl bo 0 a.length a.length).off+i*1))=some (.i .u32 (out[i]:Nat)):=λe=>((p.co.ext e).vG p.len).get c 1;have D:a[i]<Bg:=A.get q;have E:=hb.getD (by decide) i;have x:=Cx (B:=Bg) a i;have F:=Cx (B:=Bg) b i;rw[pD q]at x;simp only[Bg]at D E;have G:∀{Q:V->Hf->K->Prop},(∀h' n',Ext h n h' n'->Q (.i .u64 (b.getD i 0:Nat)) h' n')->μ C (.f 293 [] []) [.a [vb],iN i] h n Q:=λo=>Ap z t hb (by omega) o;rw[heq]at g1 w;generalize P:b.getD i 0=bd at*;generalize R:a[i]=j at*;refine aF ?_;refine ε<|aH U U<|δ ?_;refine φ<|ax U (by simp<;>omega)<|ay ?_;refine φ<|aA<|ε<|γ U<|γ U<|δ ?_;refine eT<|aI U<|aI U<|js U U io c<|aO U g1 U (by simp[dK,qn,dP,xE])<|sZ U ⟨by omega,by omega⟩<|aO U (bP p.c3.2 rfl) (kK (t.below (ξ _))) (kL (κ.dL t))<|aI U<|ch U U<|G <| λh1 n1 s=>sZ U ⟨by omega,by omega⟩<|I7 U U ⟨by omega,by omega⟩<|aI U<|I7 U U ⟨by omega,by omega⟩<|aI U<|df (⟨⟨al (by simp[Nat.testBit]),trivial⟩,⟨cT g1 (w s),trivial⟩,trivial⟩) ?_;refine ε<|γ U<|δ ?_;refine φ<|ε<|γ U<|aH U U<|δ ?_;have l:Ls h0 n0 h1 n1 b3 bo vb a.length out:=⟨p.ext.trans s,p.c3.ext s,p.co.ext s,p.lo,p.DU,p.len⟩;have H:bB h1 n1 .u32 (.sl bo 0 a.length a.length) out:=l.co.vG l.len;have fin:∀(d g:Nat),d<1000000000->g<=1->((d:Int)=(j:Int) - (bd:Int) - (bw:Int)+g*1000000000)->WC C ae6 [(k3,.p b3 0),(k4,x4),(k5,.sl bo 0 a.length a.length),(k6,iN g),(k7,iN i),(k8,iN d),(vD,iN a.length),(sy,iN i)] h1 n1 (blk 1 (sq C ae7 (sq C (.loop Jv) (blk 0 Q1)))):=by
   intro d g k I he;refine aP<|γ U<|γ U<|γ U<|nF U ⟨by omega,by omega⟩<|aV U U H c<|aR U U l.co.2 (Fo c _ (by simp[V.off])) <| λh2 J b2=>δ ?_;refine aP<|cj U U ⟨by omega,by omega⟩<|γ U<|δ ?_;have L:Ls h0 n0 h2 n1 b3 bo vb a.length (out.set i d):=⟨l.ext.Ξ b2 p.lo,l.c3.Ξ b2 p.DU,⟨l.co.1,J⟩,p.lo,p.DU,by rw[j5];exact p.len⟩;refine au (ih (i+1) (out.set i d) g h2 n1 (by omega) (by omega) L (hs.set k) ?_ I ?_ o) (Θ.rf U)
   ·rw[TN];rw[gL c,gL q]at r;injection r
   ·have y:=Cx (B:=Bg) (out.set i d) i;rw[ajK,Kx,ab ⟨rfl,c⟩]at y;rw[y,x,F];have M:d+bd+bw=j+g*Bg:=by simp only[Bg];omega
    have S:Bg ^ i*d+Bg ^ i*bd+Bg ^ i*bw=Bg ^ i*j+g*Bg ^ (i+1):=by rw[←iO,←iO,M,iO,iM];congr 1;rw[eR g Bg,←jT,eR]
    have T:bw*Bg ^ i=Bg ^ i*bw:=eR _ _;omega
  refine lA U (λu=>?_) (λu=>?_)
  ·simp only[cC]at u;obtain⟨d,k⟩:∃d:Nat,(d:Int)=(j:Int) - (bd:Int) - (bw:Int)+1000000000:=⟨((j:Int) - (bd:Int) - (bw:Int)+1000000000).toNat,by omega⟩;refine aP<|γ U<|nH U U k.symm ⟨by omega,by omega⟩<|γ U<|γ U<|δ ?_;exact au (fin d 1 (by omega) (by omega) (by omega)) (Θ.rf U)
  ·simp only[gT]at u;obtain⟨d,k⟩:∃d:Nat,(d:Int)=(j:Int) - (bd:Int) - (bw:Int):=⟨((j:Int) - (bd:Int) - (bw:Int)).toNat,by omega⟩;refine ay ?_;rw[←k];exact au (fin d 0 (by omega) (by omega) (by omega)) (Θ.rf U)
end
def TP(i:Cd C){va vb:V}{a b:List Nat}(B:a.length<1000)(D:b.length<1000)(j:Sm Bg a)(hb:gZ Bg b)(t:bB h n .u32 va a)(ib:bB h n .u32 vb b)(hle:val Bg b<=val Bg a)
 (E:∀v' l' h' n',Ext h n h' n'->bB h' n' .u32 v' l'->gZ Bg l'->val Bg l'=val Bg a - val Bg b->(v'=.ns\/n.num<=v'.blk.num)->Q (.a [v']) h' n'):μ C (.f 294 [] []) [.a [va],.a [vb]] h n Q:=by
 refine μ.go i.f294 U ?_;refine ε<|eL U U (eN t.one) <| λh1 n1 Z F G=>eL U U (eN ib.one) <| λh2 k iw H u=>bN <| λe c kh I l=>δ ?_;have m:=(G.trans u).trans l;have c2:Cl e c n [va] 252:=Cl.ext (Cl.ext ⟨by omega,F⟩ u) l;have c3:Cl e c n1 [vb] 252:=Cl.ext ⟨by omega,H⟩ l;have c4:Cl e c k [.ns] 252:=⟨by omega,I⟩;have v:=t.ext m;have J:=ib.ext m;refine ε<|χ U<|ν U (c2.ld U _)<|aJ U v<|xY U U (by omega) (by omega) <| λh4 o mQ w q=>γ U<|δ ?_;rw[Fl]at w;have L:=v.ext q;refine ε<|γ U<|χ U<|ν U ((c2.ext q).ld U _)<|Q7 U w ((by rw[Je,List.length_replicate,kp])) U L (adF _) <| λr M b5=>δ ?_;refine ε<|γ U<|δ ?_;have x:Ext e c r o:=q.Ξ b5 (ξ _);have p:Ls e c r o n1 c vb a.length a:=⟨x,c3.ext x,⟨by omega,M⟩,ξ _,by omega,rfl⟩;refine φ<|ε<|γ U<|aJ U (p.co.vG U)<|γ U<|δ ?_;refine aA<|au (ajL (x4:=.p k 0) i B D j hb.1 J _ 0 a 0 r o rfl (by omega) p j rfl (by omega) (by simp[val]) ?_) (Θ.rf U);intro out bw N O E6 d hs YH hv P;refine dO P ?_;have R:b.length<=a.length:=uC hb.2 j (by decide) hle;rw[ot R]at hv;have h2:=tx hs;rw[d.len]at h2;have S:bw=0:=by
  rcases jA 0 bw with h | h
  ·have:bw=1:=by omega
   subst this;omega
  ·omega
 subst S;have io:bB N O .u32 (.sl c 0 a.length a.length) out:=d.co.vG d.len;have T:=c4.ext d.ext;refine ε<|γ U<|ah U U<|wz i (ξ _) io (by have:=d.len;omega) <| λW h7 y s g z sG=>px (rP rfl g.cells g.one)<|aR U U ((T.ext s).2) (bS rfl rfl (eN g.one)) <| λA X b8=>δ ?_;have Y:Ext h n A y:=((m.trans d.ext).trans s).Ξ b8 (by omega);refine aj ⟨_,jI rfl (bP X rfl),?_⟩;exact E W (eM out) A y Y ((g.up s.1).Ξ b8 (Or.inr (by rw[z];show c.num≠k.num;omega))) (Ai hs) (by rw[yc];omega) (Or.inr (by rw[z];show n.num<=c.num;omega))
end
section
variable {C:Nat->Option aE}{h:Hf}{n:K}{Q:V->Hf->K->Prop}
section
variable {h0:Hf}{n0 b3 bo:K}{x4 va vb:V}{a b:List Nat}
abbrev Em(b3 bo:K)(x4 va:V)(L c lb i d:Nat)(r:Env):Env:=
 (k3,.p b3 0)::(k4,x4)::(k5,.sl bo 0 L L)::(k6,iN i)::(k7,.i .u32 (d:Nat))::(G5,va)::(Ya,iN c)::(Yb,iN i)::(k31,.i .i64 ((lb+1:Nat):Int))::r
def TQ(q:Cd C)(F:a.length<1000)(G:b.length<1000)(r:Sm Bg a)(hb:Sm Bg b)(ib:bB h0 n0 .u32 vb b){i:Nat}(hi:i<a.length){out:List Nat}{carry j:Nat}
 (p:Ls h0 n0 h n b3 bo vb (a.length+b.length+1) out)(hs:Sm Bg out)(s:carry<Bg)(hj:j<=b.length){Q1:Ex->Env->Hf->K->Prop}
 (k:∀h' n' E',Ls h0 n0 h' n' b3 bo vb (a.length+b.length+1) (out.set (i+j) ((out.getD (i+j) 0+a[i]*b.getD j 0+carry) % Bg))->Θ (Em b3 bo x4 va (a.length+b.length+1) a.length b.length i a[i] [(k8,.i .u64 ((out.getD (i+j) 0+a[i]*b.getD j 0+carry) / Bg:Nat)),(IP,iN j)]) E'->Q1 .normal E' h' n'):
 WC C ae5 (Em b3 bo x4 va (a.length+b.length+1) a.length b.length i a[i] [(k8,.i .u64 (carry:Nat)),(IP,iN j)]) h n Q1:=by
 have io:bB h n .u32 (.sl bo 0 (a.length+b.length+1) (a.length+b.length+1)) out:=p.co.vG p.len;have t:i+j<a.length+b.length+1:=by omega
 have c:i+j<out.length:=by rw[p.len];exact t
 have go:=io.get c 1;have go':∀{h'} {n'},Ext h n h' n'->bc h' false 1 (.p (V.sl bo 0 (a.length+b.length+1) (a.length+b.length+1)).blk ((V.sl bo 0 (a.length+b.length+1) (a.length+b.length+1)).off+(i+j)*1))=some (.i .u32 (out[i+j]:Nat)):=λe=>((p.co.ext e).vG p.len).get c 1;have m:=(ib.at_ p.ext).up p.ext.1;have u:out[i+j]<Bg:=hs.get c;have v:a[i]<Bg:=r.get hi;have w:b.getD j 0<Bg:=hb.getD (by decide) j;have y:=s;simp only[Bg]at u v w y;rw[pD c]at k;have z:∀{Q:V->Hf->K->Prop},(∀h' n',Ext h n h' n'->Q (.i .u64 (b.getD j 0:Nat)) h' n')->μ C (.f 293 [] []) [.a [vb],iN j] h n Q:=λk=>Ap q m hb (by omega) k;generalize H:out[i+j]=o at*;generalize I:a[i]=d at*;generalize J:b.getD j 0=bd at*;have hmul:d*bd<=999999999*999999999:=zp (by omega) (by omega);have A:(d:Int)*(bd:Int)=(d*bd:Nat):=by simp
 refine ε<|γ U<|γ U<|δ ?_;refine eT<|aI U<|aI U<|aI U<|Fs U U (show(i:Int)+(j:Int)=((i+j:Nat):Int) from rfl) ⟨by omega,by omega⟩<|js U U io c<|aO U go U (by simp[dK,qn,dP,xE])<|sZ U ⟨by omega,by omega⟩<|aI U<|sZ U ⟨by omega,by omega⟩<|aO U (bP p.c3.2 rfl) (kK (m.below (ξ _))) (kL (κ.dL m))<|aI U<|ch U U<|z <| λh1 n1 l=>zZ U U A ⟨by omega,by omega⟩<|zS U U ⟨by omega,by omega⟩<|aI U<|zS U U ⟨by omega,by omega⟩<|aI U<|df (⟨⟨al (by simp[Nat.testBit]),trivial⟩,⟨cT go (go' l),trivial⟩,trivial⟩) ?_;have B:(o:Int)+(d*bd:Nat)+(carry:Int)=((o+d*bd+carry:Nat):Int):=by omega
 rw[B];generalize L:o+d*bd+carry=x at*;have g:Ls h0 n0 h1 n1 b3 bo vb (a.length+b.length+1) out:=⟨p.ext.trans l,p.c3.ext l,p.co.ext l,p.lo,p.DU,p.len⟩;have D:bB h1 n1 .u32 (.sl bo 0 (a.length+b.length+1) (a.length+b.length+1)) out:=g.co.vG g.len;refine ε<|γ U<|γ U<|γ U<|nH U U (show(i:Int)+(j:Int)=((i+j:Nat):Int) from rfl) ⟨by omega,by omega⟩<|γ U<|QZ (b:=1000000000) U U (by omega)<|nF U ⟨by omega,by omega⟩<|aV U U D c<|aR U U g.co.2 (Fo c _ (by simp[V.off])) <| λh2 E b2=>δ ?_;refine aP<|γ U<|QX (b:=1000000000) U U (by omega) ⟨by omega,by omega⟩<|γ U<|δ ?_;exact k h2 _ _ ⟨g.ext.Ξ b2 p.lo,g.c3.Ξ b2 p.DU,⟨g.co.1,E⟩,p.lo,p.DU,by rw[j5];exact p.len⟩ (Θ.rf U)
def ajP(r:Cd C)(s:a.length<1000)(t:b.length<1000)(o:Sm Bg a)(hb:Sm Bg b)(ib:bB h0 n0 .u32 vb b){i:Nat}(hi:i<a.length)(V0:Nat){Q1:Ex->Env->Hf->K->Prop}
 (w:∀out h' n' E',Ls h0 n0 h' n' b3 bo vb (a.length+b.length+1) out->Sm Bg out->val Bg out=V0+a[i]*val Bg b*Bg ^ i->(∀k,i+1+b.length<=k->out.getD k 0=0)->Θ (Em b3 bo x4 va (a.length+b.length+1) a.length b.length i a[i] []) E'->Q1 .normal E' h' n'):
 ∀(m j:Nat) (out:List Nat) (carry:Nat) (h:Hf) (n:K),b.length - j=m->j<=b.length->Ls h0 n0 h n b3 bo vb (a.length+b.length+1) out->Sm Bg out->carry<Bg->val Bg out+carry*Bg ^ (i+j)=V0+a[i]*val Bg (b.take j)*Bg ^ i->(∀k,i+b.length<=k->out.getD k 0=0)->WC C RL (Em b3 bo x4 va (a.length+b.length+1) a.length b.length i a[i] [(k8,.i .u64 (carry:Nat)),(IP,iN j)]) h n (blk 2 Q1):=by
 intro m
 induction m with
 | zero=>
  intro j out carry h n hm hj p hs d hv l;have x:j=b.length:=by omega
  subst x;rw[fO]at hv;refine aF ?_;refine ε<|aH U U<|δ ?_;refine φ<|ax U (by simp<;>omega)<|ay<|φ<|aA ?_;have u:=l (i+b.length) (by omega);have y:b.getD b.length 0=0:=by simp
  have e:i+b.length<out.length:=by rw[p.len];omega
  refine au (TQ r s t o hb ib hi p hs d (ξ _) ?_) (Θ.rf U);intro h1 n1 E1 f s1;simp only[u,y,ou,eV,zm d]at f;refine dO s1 ?_;refine aP<|cj U U ⟨by omega,by omega⟩<|γ U<|δ ?_;refine aF ?_;refine ε<|aH U U<|δ ?_;refine φ<|az U (by simp)<|bG ?_;have vs:=SX (B:=Bg) out e carry;have z:out[i+b.length]=0:=by rw[←pD e];exact u
  rw[z,ou,j6,eR (Bg ^ (i+b.length))]at vs;refine w _ h1 n1 _ f (hs.set d) (by rw[vs];exact hv) (λk v=>?_) (Θ.rf U);rw[Kx,Γ (by omega)];exact l k (by omega)
 | succ m ih=>
  intro j out carry h n hm hj p hs d hv l;have J:j<b.length:=by omega
  have e:i+j<out.length:=by rw[p.len];omega
  refine aF ?_;refine ε<|aH U U<|δ ?_;refine φ<|ax U (by simp<;>omega)<|ay<|φ<|aA ?_;refine au (TQ r s t o hb ib hi p hs d hj ?_) (Θ.rf U);intro h1 n1 E1 f s1;refine dO s1 ?_;have A:out[i+j]<Bg:=hs.get e;have D:a[i]<Bg:=o.get hi;have E:b.getD j 0<Bg:=hb.getD (by decide) j;have F:=d;simp only[Bg]at A D E F;have G:=Cx (B:=Bg) b j;rw[pD e]at f s1 ⊢;have vs:=SX (B:=Bg) out e ((out[i+j]+a[i]*b.getD j 0+carry) % Bg);generalize L:out[i+j]=g at*;generalize M:a[i]=c at*;generalize N:b.getD j 0=bd at*;have hmul:c*bd<=999999999*999999999:=zp (by omega) (by omega);refine aP<|cj U U ⟨by omega,by omega⟩<|γ U<|δ ?_;have H:(g+c*bd+carry) / Bg<Bg:=by show _ / 1000000000<1000000000;omega
  refine au (ih (j+1) _ _ h1 n1 (by omega) (by omega) f (hs.set (oU _ (by decide))) H ?_ (λk v=>?_)) (Θ.rf U)
  ·have O:=zh (g+c*bd+carry) Bg;generalize (g+c*bd+carry) / Bg=q at*;generalize (g+c*bd+carry) % Bg=rx at*;rw[G];have P:Bg ^ (i+j)*g+Bg ^ (i+j)*(c*bd)+Bg ^ (i+j)*carry=Bg ^ (i+j)*rx+Bg ^ (i+j)*(Bg*q):=by
    rw[←iO,←iO,←iO];congr 1;omega
   have R:q*Bg ^ (i+(j+1))=Bg ^ (i+j)*(Bg*q):=by rw[←mj,iM,eR,jT]
   have I:c*(val Bg (List.take j b)+Bg ^ j*bd)*Bg ^ i=c*val Bg (List.take j b)*Bg ^ i+Bg ^ (i+j)*(c*bd):=by rw[iO,ie];congr 1;rw[Nat.pow_add];simp only[eR,Nat.mul_left_comm,jT]
   have S:carry*Bg ^ (i+j)=Bg ^ (i+j)*carry:=eR _ _;rw[I];omega
  ·rw[Kx,Γ (by omega)];exact l k v
def ajQ(f:Cd C)(g:a.length<1000)(j:b.length<1000)(l:Sm Bg a)(hb:Sm Bg b)(o:bB h0 n0 .u32 va a)(ib:bB h0 n0 .u32 vb b){Q1:Ex->Env->Hf->K->Prop}
 (q:∀out h' n' E',Ls h0 n0 h' n' b3 bo vb (a.length+b.length+1) out->Sm Bg out->val Bg out=val Bg a*val Bg b->Θ [(k4,x4),(k5,.sl bo 0 (a.length+b.length+1) (a.length+b.length+1))] E'->Q1 .normal E' h' n'):
 ∀(m i:Nat) (out:List Nat) (h:Hf) (n:K),a.length - i=m->i<=a.length->Ls h0 n0 h n b3 bo vb (a.length+b.length+1) out->Sm Bg out->val Bg out=val Bg (a.take i)*val Bg b->(∀k,i+b.length<=k->out.getD k 0=0)->WC C RK [(k3,.p b3 0),(k4,x4),(k5,.sl bo 0 (a.length+b.length+1) (a.length+b.length+1)),(G5,va),(Ya,iN a.length),(Yb,iN i)] h n (blk 0 Q1):=by
 intro m
 induction m with
 | zero=>
  intro i out h n hm hi p hs hv d;have ei:i=a.length:=by omega
  subst ei;rw[fO]at hv;refine aF ?_;refine ε<|aH U U<|δ ?_;exact φ<|az U (by simp)<|bG (q out h _ _ p hs hv (Θ.rf U))
 | succ m ih=>
  intro i out h n hm hi p hs hv d;have c:i<a.length:=by omega
  have e:=o.at_ p.ext;have r:=ib.at_ p.ext;refine aF ?_;refine ε<|aH U U<|δ ?_;refine φ<|ax U (by simp<;>omega)<|ay ?_;refine φ<|aA<|ε<|γ U<|aV U U e c<|ν U (e.get c _)<|γ U<|γ U<|δ ?_;refine ε<|γ U<|δ ?_;refine ε<|χ U<|ν U (p.c3.ld U _)<|aJ U r<|cj U U ⟨by omega,by omega⟩<|γ U<|δ ?_;refine aA<|au (ajP f g j l hb ib c (val Bg out) ?_ _ 0 out 0 h n rfl (by omega) p hs (by decide) (by simp[val]) d) (Θ.rf U);intro s h1 n1 E1 t u v1 v s1;refine dO s1 ?_;refine aP<|cj U U ⟨by omega,by omega⟩<|γ U<|δ ?_;refine au (ih (i+1) s h1 n1 (by omega) (by omega) t u ?_ v) (Θ.rf U);rw[v1,hv,Cx,pD c,ie];congr 1;simp only[eR,Nat.mul_left_comm,jT]
end
def KW(i:Cd C){va vb:V}{a b:List Nat}(B:a.length<1000)(D:b.length<1000)(E:Sm Bg a)(hb:Sm Bg b)(s:bB h n .u32 va a)(ib:bB h n .u32 vb b)
 (F:∀v' l' h' n',Ext h n h' n'->bB h' n' .u32 v' l'->gZ Bg l'->val Bg l'=val Bg a*val Bg b->(v'=.ns\/n.num<=v'.blk.num)->Q (.a [v']) h' n'):μ C (.f 291 [] []) [.a [va],.a [vb]] h n Q:=by
 refine μ.go i.f291 U ?_;refine ε<|eL U U (eN s.one) <| λh1 n1 W G H=>eL U U (eN ib.one) <| λh2 j X I t=>bN <| λe c Y J l=>δ ?_;have m:=(H.trans t).trans l;have c2:Cl e c n [va] 252:=Cl.ext (Cl.ext ⟨by omega,G⟩ t) l;have c3:Cl e c n1 [vb] 252:=Cl.ext ⟨by omega,I⟩ l;have c4:Cl e c j [.ns] 252:=⟨by omega,J⟩;have o:=s.ext m;have u:=ib.ext m;refine ε<|χ U<|ν U (c2.ld U _)<|aJ U o<|χ U<|ν U (c3.ld U _)<|aJ U u<|nH U U (show(a.length:Int)+(b.length:Int)=((a.length+b.length:Nat):Int) from rfl) ⟨by omega,by omega⟩<|nH U U (show((a.length+b.length:Nat):Int)+1=((a.length+b.length+1:Nat):Int) from rfl) ⟨by omega,by omega⟩<|xY U U (by omega) (by omega) <| λv w Z x q=>γ U<|δ ?_;rw[Fl]at x;have p:Ls e c v w n1 c vb (a.length+b.length+1) (List.replicate (a.length+b.length+1) 0):=⟨q,c3.ext q,⟨by omega,x⟩,ξ _,by omega,by simp⟩;refine φ<|ε<|χ U<|ν U ((c2.ext q).ld U _)<|aJ U o<|γ U<|δ ?_;refine aA<|au (ajQ (x4:=.p j 0) i B D E hb o u ?_ _ 0 _ v w rfl (by omega) p (Sm.rep (by decide) _) (by rw[ahH];simp[val]) (λk _=>by simp[dY,List.getElem?_replicate];split<;>rfl)) (Θ.rf U);intro out L M E5 d N v5 O;refine dO O ?_;have io:bB L M .u32 (.sl c 0 (a.length+b.length+1) (a.length+b.length+1)) out:=d.co.vG d.len;have P:=c4.ext d.ext;refine ε<|γ U<|ah U U<|wz i (ξ _) io (by have:=d.len;omega) <| λR h7 y r g z sG=>px (rP rfl g.cells g.one)<|aR U U ((P.ext r).2) (bS rfl rfl (eN g.one)) <| λA S b8=>δ ?_;have T:Ext h n A y:=((m.trans d.ext).trans r).Ξ b8 (by omega);refine aj ⟨_,jI rfl (bP S rfl),?_⟩;exact F R (eM out) A y T ((g.up r.1).Ξ b8 (Or.inr (by rw[z];show c.num≠j.num;omega))) (Ai N) (by rw[yc,v5]) (Or.inr (by rw[z];show n.num<=c.num;omega))
end
section
variable {C:Nat->Option aE}{h:Hf}{n:K}{Q:V->Hf->K->Prop}
def ajT{x A d:Nat}(B:Nat)(a:0<d):(x+B*(A % d)) / d+B*(A / d)=(x+B*A) / d:=by
 have h:=zh A d;have e:x+B*A=(x+B*(A % d))+d*(B*(A / d)):=by rw[Nat.mul_left_comm d,mj,←iO,oW (A % d),h]
 rw[e,Nat.add_mul_div_left _ _ a]
structure Sh(h0:Hf)(n0:K)(h:Hf)(n:K)(b3 b4 b5 b6 b7 bo:K)(d L:Nat)(out:List Nat)(rest:Nat):Prop where
 ext:Ext h0 n0 h n
 c3:Cl h n b3 [.i .u32 (d:Nat)] 309
 c4:Cl h n b4 [.ns] 252
 c5:Cl h n b5 [.ns] 252
 c6:Cl h n b6 [.sl bo 0 L L] 250
 c7:Cl h n b7 [.i .u64 (rest:Nat)] 348
 co:Cl h n bo (nC .u32 out) 309
 len:out.length=L
structure Shn(n0 b3 b4 b5 b6 b7 bo:K):Prop where
 l3:n0.num<=b3.num
 l4:b3.num<b4.num
 l5:b4.num<b5.num
 lo:b5.num<bo.num
 l6:bo.num<b6.num
 l7:b6.num<b7.num
def Sh.on{h0:Hf}{n0:K}{h h':Hf}{n n' b3 b4 b5 b6 b7 bo:K}{d L:Nat}{out:List Nat}{rest:Nat}(s:Sh h0 n0 h n b3 b4 b5 b6 b7 bo d L out rest)(e:Ext h n h' n'):Sh h0 n0 h' n' b3 b4 b5 b6 b7 bo d L out rest:=
 ⟨s.ext.trans e,s.c3.ext e,s.c4.ext e,s.c5.ext e,s.c6.ext e,s.c7.ext e,s.co.ext e,s.len⟩
def Sh.Ξ{h0:Hf}{n0:K}{h h':Hf}{n b3 b4 b5 b6 b7 bo b:K}{d L:Nat}{out:List Nat}{rest:Nat}(s:Sh h0 n0 h n b3 b4 b5 b6 b7 bo d L out rest)(o:Shn n0 b3 b4 b5 b6 b7 bo)(hb:b7.num<b.num)(e:bA b h h'):Sh h0 n0 h' n b3 b4 b5 b6 b7 bo d L out rest:=by obtain⟨l3,l4,l5,lo,l6,l7⟩:=o;exact⟨s.ext.Ξ e (by omega),s.c3.Ξ e (by omega),s.c4.Ξ e (by omega),s.c5.Ξ e (by omega),s.c6.Ξ e (by omega),s.c7.Ξ e (by omega),s.co.Ξ e (by omega),s.len⟩
def TR(S:Cd C){va:V}{a:List Nat}{d:Nat}(nY:a.length<1000)(ha:Sm Bg a)(qN:0<d)(hd:d<Bg)(ia:bB h n .u32 va a)
 (hQ:∀v1 q T r h' n',Ext h n h' n'->bB h' n' .u32 v1 q->gZ Bg q->val Bg q=val Bg a / d->bB h' n' .u32 T r->gZ Bg r->val Bg r=val Bg a % d->(v1=.ns\/n.num<=v1.blk.num)->(T=.ns\/n.num<=T.blk.num)->Q (.u [.a [v1],.a [T]]) h' n'):μ C (.f 290 [] []) [.a [va],.i .u32 (d:Nat)] h n Q:=by
 have DF:=hd;simp only[Bg]at DF;refine μ.go S.f290 U ?_;refine ε<|eL U U (eN ia.one) <| λh1 n1 dd a1 e1=>eL U U U <| λh2 E iw a2 e2=>bN <| λh3 J kh a3 e3=>bN <| λL b mQ a4 W=>δ ?_;have x4:=((e1.trans e2).trans e3).trans W;have c2:Cl L b n [va] 252:=Cl.ext (Cl.ext (Cl.ext ⟨by omega,a1⟩ e2) e3) W;have c3:Cl L b n1 [.i .u32 (d:Nat)] 309:=Cl.ext (Cl.ext ⟨by omega,a2⟩ e3) W;have c4:Cl L b E [.ns] 252:=Cl.ext ⟨by omega,a3⟩ W;have c5:Cl L b J [.ns] 252:=⟨by omega,a4⟩;have D5:=ia.ext x4;refine ε<|χ U<|ν U (c2.ld U _)<|aJ U D5<|xY U U (by omega) (by omega) <| λh5 X pC a5 e5=>bN <| λh6 o jh a6 Y=>aR U U a6 U <| λh7 a7 b7=>δ ?_;rw[Fl]at a5;have x7:Ext L b h7 o:=(e5.trans Y).Ξ b7 (by omega);have co:Cl h7 o b (nC .u32 (List.replicate a.length 0)) 309:=Cl.Ξ (n:=o) (Cl.ext ⟨by omega,a5⟩ Y) b7 (by omega);refine ε<|bN <| λh8 n8 yW a8 e8=>aR U U a8 U <| λh9 a9 b9=>δ ?_;have YK:Ext h7 o h9 n8:=e8.Ξ b9 (ξ _);have F:=x7.trans YK;have c69:Cl h9 n8 X [.sl b 0 a.length a.length] 250:=Cl.ext ⟨by omega,a7⟩ YK;have ord:Shn n n1 E J X o b:=⟨by omega,by omega,by omega,by omega,by omega,by omega⟩;have s9:Sh h n h9 n8 n1 E J X o b d a.length (List.replicate a.length 0) 0:=⟨x4.trans F,c3.ext F,c4.ext F,c5.ext F,c69,⟨by omega,a9⟩,co.ext YK,by simp⟩;have ia9:=D5.ext F;refine φ<|ε<|χ U<|ν U ((c2.ext F).ld U _)<|ah U U<|KT S ia9 (by omega) ?_;intro M e jK N hX sr pg gH it;refine δ ?_;have s10:=s9.on hX;have auw:=ia9.ext hX;have auy:=s10.ext;have y10:=hX.1;let I:Nat->Hf->K->Prop:=λj h' n'=>(M.num<n'.num/\h' M=some (.c [va] e 0))/\∃out rest,Sh h n h' n' n1 E J X o b d a.length out rest/\Sm Bg out/\rest=val Bg (a.drop (a.length - j)) % d/\val Bg (out.drop (a.length - j))=val Bg (a.drop (a.length - j)) / d;refine aA<|tj U it I (λ_ _ _=>False) ?_ ?_ ?_ ?_ ?_ ?_ ?_ ?_
 ·rintro j h1 n1 h' n' ⟨⟨m,G⟩,out,rest,A,D,k,t⟩ ex;exact⟨⟨eE m ex.1,by rw[ex.2 _ m];exact G⟩,out,rest,A.on ex,D,k,t⟩
 ·rintro j h1 n1 h' ⟨⟨m,G⟩,out,rest,A,D,k,t⟩ O;exact⟨⟨m,by rw[O _ (by omega)];exact G⟩,out,rest,A.Ξ ord (by omega) O,D,k,t⟩
 ·rintro j h1 n1 ⟨m,out,rest,A,_⟩;exact⟨m.1,m.2,ia.ext A.ext⟩
 ·intro j hj;rw[qD];rfl
 ·intro h' O;have KM:N.succ.num=N.num+1:=K.eI N;refine⟨⟨by omega,by rw[O _ (by omega)];exact sr⟩,_,0,(s10.Ξ ord (by omega) O).on ⟨by omega,λ_ _=>rfl⟩,Sm.rep (by decide) _,?_,?_⟩
  ·rw[mY,oS];simp[val]
  ·rw[mY,oS,qR (by simp)];simp[val]
 ·rintro j hj iD uO E1 F2 ⟨⟨m,G⟩,out,rest,A,D,k,t⟩ fH;have bR:j<a.length:=by rw[nJ]at hj;exact hj
  rw[qD]at fH;simp only[jF,kV]at fH;subst fH;have hi:a.length - 1 - j<a.length:=by omega
  rw[show a.length - j=(a.length - 1 - j)+1 by omega]at k t;have rJ:a.length - (j+1)=a.length - 1 - j:=by omega
  generalize a.length - 1 - j=i at*;rw[pD hi];refine ε<|γ U<|δ<|aP<|γ U<|δ ⟨rfl,rfl,λhU b12=>?_⟩;have g:=A.Ξ ord (by omega) b12;have fG:i<out.length:=by rw[g.len];exact hi
  have q1:a[i]<Bg:=ha.get hi;have hr:rest<d:=by rw[k];exact oU _ qN
  have hx:rest*1000000000+a[i]<d*Bg:=by
   have:rest*Bg+Bg<=d*Bg:=by rw[←tQ];exact gE _ hr
   simp only[Bg]at this q1 ⊢;omega
  have YL:(rest*1000000000+a[i]) / d<1000000000:=Nat.div_lt_of_lt_mul hx;have hxb:d*Bg<=1000000000*1000000000:=zp (by omega) (ξ _);have vd:=Ah (B:=Bg) a hi;have vo:=Ah (B:=Bg) (out.set i ((rest*1000000000+a[i]) / d)) (i:=i) (by rw[j5];exact fG);rw[xk,TN]at vo;simp only[Bg]at q1;have vz:rest*1000000000+a[i]=a[i]+Bg*rest:=by simp only[Bg];omega
  have Y:val Bg (a.drop i) % d=(rest*1000000000+a[i]) % d:=by rw[vd,vz,k,←SZ]
  have e7:val Bg ((out.set i ((rest*1000000000+a[i]) / d)).drop i)=val Bg (a.drop i) / d:=by rw[vo,t,vd,vz,k];exact ajT Bg qN
  generalize hxx:rest*1000000000+a[i]=x at*;have KX:(0:Int)<=((x / d:Nat):Int):=qS _;have F3:((x / d:Nat):Int)<=18446744073709551615:=by generalize x / d=y at YL ⊢;omega
  have ajX:((x / d:Nat):Int)<=4294967295:=by generalize x / d=y at YL ⊢;omega
  refine aA<|ε<|ν U (g.c7.ld U _)<|xZ U U ((show(rest:Int)*1000000000=((rest*1000000000:Nat):Int) by omega)) ⟨by omega,by omega⟩<|γ U<|nF U ⟨by omega,by omega⟩<|nH U U ((show((rest*1000000000:Nat):Int)+(a[i]:Nat)=(x:Nat) by omega)) ⟨by omega,by omega⟩<|γ U<|δ ?_;have io:bB hU uO .u32 (.sl b 0 a.length a.length) out:=g.co.vG g.len;have be:bz uO (.sl b 0 a.length a.length)=true:=io.below (ξ _);refine eT<|aO U (g.c6.ld U _) be (κ.dL io)<|aI U<|aI U<|aO U (g.c3.ld U _) U (gJ _ _)<|sZ U ⟨by omega,by omega⟩<|QY U U qN (⟨KX,F3⟩)<|sZ U (⟨KX,ajX⟩)<|js U U io fG<|fK U U g.co.2 (Fo fG _ (by simp[V.off])) <| λpZ YM cY=>df (⟨⟨al (by simp[Nat.testBit]),trivial⟩,⟨al (by simp[Nat.testBit]),trivial⟩,trivial⟩) ?_;obtain⟨l3,l4,l5,lo,l6,l7⟩:=ord;have auz:=g.c7.1;have v:bA b hU pZ:=cY;have TS:=g.c3.Ξ v (by omega);have TT:=g.c7.Ξ v (by omega);refine aP<|γ U<|ν U (TS.ld U _)<|nF U ⟨by omega,by omega⟩<|QZ U U qN<|aR U U TT.2 U <| λuP D6 uo=>δ ?_;have w:bA o pZ uP:=uo;refine⟨F2,(w N (by omega)).trans (v N (by omega)),⟨m,(w M (by omega)).trans ((v M (by omega)).trans ((b12 M (by omega)).trans G))⟩,_,_,⟨(g.ext.Ξ v (by omega)).Ξ w (by omega),TS.Ξ w (by omega),(g.c4.Ξ v (by omega)).Ξ w (by omega),(g.c5.Ξ v (by omega)).Ξ w (by omega),(g.c6.Ξ v (by omega)).Ξ w (by omega),⟨TT.1,D6⟩,Cl.Ξ ⟨g.co.1,YM⟩ w (by omega),by rw[j5];exact g.len⟩,D.set YL,by rw[rJ];exact Y.symm,by rw[rJ];exact e7⟩
 ·rintro h' n' F2 ⟨⟨m,G⟩,out,rest,s,D,k,t⟩;rw[nJ,kY,ig]at k;rw[nJ,kY,ig,ig]at t;have io:bB h' n' .u32 (.sl b 0 a.length a.length) out:=s.co.vG s.len;have be:bz n' (.sl b 0 a.length a.length)=true:=io.below (ξ _);have hr:rest<d:=by rw[k];exact oU _ qN
  have l7:∀{H:Hf},Ag n' h' H->bc H false 1 (.p o 0)=some (.i .u64 (rest:Nat)):=λag=>(s.c7.ext (ag.x (ξ _))).ld U _;have tE:=s.len;refine eT<|aO U (s.c6.ld U _) be (κ.dL io)<|ch U U<|wz S (ξ _) io (by omega) <| λv1 pO Z z NT Hh r1'=>tc (rP rfl NT.cells NT.one)<|aO U (l7 z.ag) U (gJ _ _)<|sZ U ⟨by omega,by omega⟩<|th U <| λnG n2' auA YN P=>ch U U<|wz S (l:=[rest]) (ξ _) (κ.whole (len:=1) (by omega) YN rfl) (by simp) <| λv3 Be NU R NV q3' r3'=>tc (rP rfl NV.cells NV.one)<|fK U U (((s.c4.ext ((z.trans P).trans R))).2) (bS rfl rfl (eN NT.one)) <| λYO a4' nX=>fK U U ((Cl.Ξ (n:=NU) (s.c5.ext ((z.trans P).trans R)) nX (by omega)).2) (bS rfl rfl (eN NV.one)) <| λG0 YP wZ=>df (⟨⟨al (by simp[Nat.testBit]),al (by simp[Nat.testBit]),al (by simp[Nat.testBit]),cT (l7 ((Ag.refl _ _).hp Z none z.1)) (l7 (z.ag.hp Z none z.1)),trivial⟩,⟨al (by simp[Nat.testBit]),al (by simp[Nat.testBit]),al (by simp[Nat.testBit]),al (by simp[Nat.testBit]),trivial⟩,trivial⟩) ?_;have x3':=(z.trans P).trans R;have yo:bA J YO G0:=wZ;have CQ:bA E Be YO:=nX;have kO:Sm Bg [rest]:=Sm.cons (by simp only[Bg];omega) Sm.nil;refine aj ⟨_,Fi rfl (bP (l':=[v1]) ((yo E (by omega)).trans a4') U) U (bP YP rfl),?_⟩;have wK:=s.c4.1;have NW:=s.c5.1;have NX:=s.co.1;have z1:=z.1;have z2:=P.1;have z3:=R.1;have z0:=s.ext.1;refine hQ v1 (eM out) v3 (eM [rest]) G0 NU (((s.ext.trans x3').Ξ CQ (by omega)).Ξ yo (by omega)) ?_ (Ai D) (by rw[yc,t]) ?_ (Ai kO) (by rw[yc];simp only[val];omega) (Or.inr (by rw[Hh];show n.num<=b.num;omega)) (Or.inr (by rw[q3'];show n.num<=Z.num;omega))
  ·have k1:v1.blk.num=b.num:=by rw[Hh];rfl
   exact((((NT.up z1).ext (P.trans R))).Ξ CQ (Or.inr (by omega))).Ξ yo (Or.inr (by omega))
  ·have k3:v3.blk.num=Z.num:=by rw[q3'];rfl
   exact(((NV.up (by omega)).ext (Ext.refl _ _)).Ξ CQ (Or.inr (by omega))).Ξ yo (Or.inr (by omega))
 ·rintro ex h' n' nG F2 hf;exact hf.elim
end
section
variable {C:Nat->Option aE}{h:Hf}{n:K}{Q:V->Hf->K->Prop}
abbrev Es(b8 b9 fA km b12 cY:K)(i:Nat)(r:Env):Env:=
 (k8,.p b8 0)::(k9,.p b9 0)::(oK,.p fA 0)::(sx,.p km 0)::(lW,.p b12 0)::(pT,.p cY 0)::(vC,iN i)::r
section
variable {h0:Hf}{n0 b8 b9 fA km b12 cY:K}{i:Nat}{vr:V}{r:List Nat}{size top next head R bb P:Nat}
def ajZ(F:Cd C)(G:Cl h0 n0 b9 [iN size] 3)(L:Cl h0 n0 fA [.i .u64 (top:Nat)] 348)(H:Cl h0 n0 km [.i .u64 (next:Nat)] 348)(jR:Cl h0 n0 cY [vr] 252)(ir:bB h0 n0 .u32 vr r)
 (s:Sm Bg r)(Y:r.length<1000)(h2:2<=size)(Z:size<1000)(d:Dg Bg R bb head (r.getD (size - 2) 0) top next P)(hp:P*Bg<=bb)(kI:top<Bg){Q1:Ex->Env->Hf->K->Prop}
 (g:∀b h' n' E',Ext h0 n0 h' n'->b*bb<R+bb->R / bb<=b->b<Bg->Θ (Es b8 b9 fA km b12 cY i [(yS,.i .u64 (b:Nat))]) E'->Q1 .normal E' h' n'):
 ∀(b left:Nat) (h:Hf) (n:K),Ext h0 n0 h n->b*top+left=head->R / bb<=b->b<=Bg+1->left<Bg->WC C Ju (Es b8 b9 fA km b12 cY i [(yS,.i .u64 (b:Nat)),(vD,.i .u64 (left:Nat))]) h n (blk 2 Q1):=by
 have I:=s.getD (by decide) (size - 2);have t:=d.qz;have main:∀(m b left:Nat) (h:Hf) (n:K),b=m->Ext h0 n0 h n->b*top+left=head->R / bb<=b->b<=Bg+1->left<Bg->WC C Ju (Es b8 b9 fA km b12 cY i [(yS,.i .u64 (b:Nat)),(vD,.i .u64 (left:Nat))]) h n (blk 2 Q1):=by
  intro m
  induction m with
  | zero=>
   intro b left h n hm e o p j hl;subst hm;have u:=G.ext e;have k:=H.ext e;have v:=jR.ext e;have l:=ir.ext e;have D9:=hl;simp only[Bg]at I j hl t;have w:∀{Q:V->Hf->K->Prop},(∀h' n',Ext h n h' n'->Q (.i .u64 (r.getD (size - 2) 0:Nat)) h' n')->μ C (.f 293 [] []) [.a [vr],.i .i64 ((size - 2:Nat):Nat)] h n Q:=λg=>Ap F l s (by omega) g;refine aF ?_;generalize pU:r.getD (size - 2) 0=l2 at*;refine φ<|eT<|aI U<|I8 U U<|aI U<|cG U (by simp)<|aI U<|cG U (by simp)<|aO U (k.ld U _) U (gJ _ _)<|cG U (by simp)<|zZ U U ((show((0:Nat):Int)*(next:Int)=((0:Nat):Int) by omega)) ⟨by omega,by omega⟩<|cG U (by simp)<|aI U<|cG U (by simp)<|zZ U U ((show(left:Int)*1000000000=((left*1000000000:Nat):Int) by omega)) ⟨by omega,by omega⟩<|cG U (by simp)<|aO U (bP v.2 rfl) (kK (l.below (ξ _))) (kL (κ.dL l))<|cG U (by simp)<|aO U (u.ld U _) U (gJ _ _)<|cG U (by simp)<|zY U U ((show(size:Int) - 2=((size - 2:Nat):Int) by omega)) ⟨by omega,by omega⟩<|cG U (by simp)<|ch U U<|w <| λh1 n1 c=>cG U (by simp)<|zS U U ⟨by omega,by omega⟩<|cG U (by simp)<|zU U U<|xW U (by simp) U<|df (⟨⟨al (by simp[Nat.testBit]),trivial⟩,⟨al (by simp[Nat.testBit]),trivial⟩,⟨cT (k.ld U _) ((k.ext c).ld U _),trivial⟩,trivial⟩) ?_;refine az U (by simp<;>omega)<|bG ?_;exact g 0 h1 n1 _ (e.trans c) (d.done o (by simp only[Bg];omega) (by omega) hp) p (by simp only[Bg];omega) (Θ.rf U)
  | succ m ih=>
   intro b left h n hm e o p j hl;have u:=G.ext e;have M:=L.ext e;have k:=H.ext e;have v:=jR.ext e;have l:=ir.ext e;have w:∀{Q:V->Hf->K->Prop},(∀h' n',Ext h n h' n'->Q (.i .u64 (r.getD (size - 2) 0:Nat)) h' n')->μ C (.f 293 [] []) [.a [vr],.i .i64 ((size - 2:Nat):Nat)] h n Q:=λg=>Ap F l s (by omega) g;have hmul:b*next<=1000000001*1000000000:=zp (by simp only[Bg]at j;omega) (by simp only[Bg]at t;omega);have N:(b:Int)*(next:Int)=((b*next:Nat):Int):=by simp
   generalize pU:r.getD (size - 2) 0=l2 at*;have go:∀(h1:Hf) (n1:K) (E:Env),Ext h n h1 n1->(Bg<=b\/left*Bg+l2<b*next)->Θ (Es b8 b9 fA km b12 cY i [(yS,.i .u64 (b:Nat)),(vD,.i .u64 (left:Nat))]) E->WC C aeZ E h1 n1 (sq C (.loop RJ) (blk 2 Q1)):=by
    intro h1 n1 E c q O;refine dO O ?_;obtain⟨g1,g2⟩:=d.down o p q;have x:(b - 1)*top+(left+top)=head:=by
     have:b*top=(b - 1)*top+top:=by rw[←tQ];congr 1;omega
     omega
    have y:=j;have z:=hl;have S:=kI;simp only[Bg]at y z S;refine aA<|ε<|γ U<|py U U ((show(b:Int) - 1=((b - 1:Nat):Int) by omega)) ⟨by omega,by omega⟩<|γ U<|δ ?_;refine ε<|γ U<|ν U ((M.ext c).ld U _)<|nH U U ((show(left:Int)+(top:Int)=((left+top:Nat):Int) by omega)) ⟨by omega,by omega⟩<|γ U<|δ ?_;refine ε<|γ U<|iC U U<|δ ?_;by_cases hb:Bg<=left+top
    ·have A:=hb;simp only[Bg]at A;refine ax U (by simp<;>omega)<|bG ?_;obtain⟨J,T⟩:=d.brk x hb;exact g (b - 1) h1 n1 _ (e.trans c) (d.done x J T hp) g1 J (Θ.rf U)
    ·have A:=hb;simp only[Bg]at A;refine az U (by simp<;>omega)<|ay ?_;exact au (ih (b - 1) (left+top) h1 n1 (by omega) (e.trans c) x g1 (by omega) (by omega)) (Θ.rf U)
   have W:=I;have y:=j;have z:=hl;have X:=t;simp only[Bg]at W y z X;refine aF ?_;by_cases hB:Bg<=b
   ·have B:=hB;simp only[Bg]at B;refine φ<|eT<|aI U<|I8 U U<|aI U<|eK U (by simp<;>omega)<|eK U (by simp<;>omega)<|eK U (by simp<;>omega)<|eK U (by simp<;>omega)<|eK U (by simp<;>omega)<|eK U (by simp<;>omega)<|eK U (by simp<;>omega)<|eK U (by simp<;>omega)<|eK U (by simp<;>omega)<|eK U (by simp<;>omega)<|eK U (by simp<;>omega)<|Ch U (by simp<;>omega) U<|df (by simp[AG,nE,pS,Nat.testBit]) ?_;exact ax U U<|ay<|go h n _ (Ext.refl _ _) (Or.inl hB) (Θ.rf U)
   ·have B:=hB;simp only[Bg]at B;refine φ<|eT<|aI U<|I8 U U<|aI U<|cG U (by simp<;>omega)<|aI U<|cG U (by simp<;>omega)<|aO U (k.ld U _) U (gJ _ _)<|cG U (by simp<;>omega)<|zZ U U N ⟨by omega,by omega⟩<|cG U (by simp<;>omega)<|aI U<|cG U (by simp<;>omega)<|zZ U U ((show(left:Int)*1000000000=((left*1000000000:Nat):Int) by omega)) ⟨by omega,by omega⟩<|cG U (by simp<;>omega)<|aO U (bP v.2 rfl) (kK (l.below (ξ _))) (kL (κ.dL l))<|cG U (by simp<;>omega)<|aO U (u.ld U _) U (gJ _ _)<|cG U (by simp<;>omega)<|zY U U ((show(size:Int) - 2=((size - 2:Nat):Int) by omega)) ⟨by omega,by omega⟩<|cG U (by simp<;>omega)<|ch U U<|w <| λh1 n1 c=>cG U (by simp<;>omega)<|zS U U ⟨by omega,by omega⟩<|cG U (by simp<;>omega)<|zU U U<|xW U (by simp<;>omega) U<|df (⟨⟨al (by simp[Nat.testBit]),trivial⟩,⟨al (by simp[Nat.testBit]),trivial⟩,⟨cT (k.ld U _) ((k.ext c).ld U _),trivial⟩,trivial⟩) ?_;by_cases q:left*Bg+l2<b*next
    ·have D:=q;simp only[Bg]at D;exact ax U (by simp<;>omega)<|ay<|go h1 n1 _ c (Or.inr q) (Θ.rf U)
    ·have D:=q;simp only[Bg]at D;refine az U (by simp<;>omega)<|bG ?_;exact g b h1 n1 _ (e.trans c) (d.done o (by omega) (by omega) hp) p (by omega) (Θ.rf U)
 intro b left h n e o p j hl;exact main b b left h n rfl e o p j hl
end
end
section
variable {C:Nat->Option aE}{h:Hf}{n:K}{Q:V->Hf->K->Prop}
structure Dv(h0:Hf)(n0:K)(h:Hf)(n bo b12 cY:K)(L:Nat)(vr:V)(r:List Nat):Prop where
 ext:Ext h0 n0 h n
 mR:Cl h n b12 [.sl bo 0 L L] 250
 jR:Cl h n cY [vr] 252
 co:∃ds:List Nat,ds.length=L/\Cl h n bo (nC .u32 ds) 309
 ir:bB h n .u32 vr r
 CS:gZ Bg r
 sep:vr=.ns\/cY.num<vr.blk.num
def Kp(h:Hf)(n:K)(h':Hf)(n' bo cY:K):Prop:=n.num<=n'.num/\∀k:K,k.num<n.num->k.num≠bo.num->k.num≠cY.num->h' k=h k
def Kp.refl(h:Hf)(n bo cY:K):Kp h n h n bo cY:=⟨ξ _,λ_ _ _ _=>rfl⟩
def Kp.ext{h h1 h2:Hf}{n n1 c bo cY:K}(a:Kp h n h1 n1 bo cY)(e:Ext h1 n1 h2 c):Kp h n h2 c bo cY:=⟨eF a.1 e.1,λk h1 h2 d=>by rw[e.2 k (eE h1 a.1)];exact a.2 k h1 h2 d⟩
def Kp.Ξ{h h1 h2:Hf}{n n1 bo cY b:K}(a:Kp h n h1 n1 bo cY)(e:bA b h1 h2)(hb:b.num=bo.num\/b.num=cY.num\/n.num<=b.num):Kp h n h2 n1 bo cY:=⟨a.1,λk h1 h2 c=>by rw[e k (by omega)];exact a.2 k h1 h2 c⟩
def bB.aj2{h:Hf}{n:K}{v:V}{x:Nat}{r:List Nat}(a:κ h n 1 v (1+r.length) ([.i .u32 (x:Nat)]++nC .u32 r)):bB h n .u32 v (x::r):=by show κ h n 1 v (r.length+1) _;rw[oW];exact a
section
variable {h0:Hf}{n0 b8 b9 fA km b12 cY bo:K}{i L:Nat}{vb:V}{b:List Nat}{size top next:Nat}
def TU(A:Cd C)(B:n0.num<=bo.num)(M:bo.num<b12.num)(N:b12.num<cY.num){hs:Hf}{ns:K}{vr:V}{r p:List Nat}{k:K}{l:V}{g:Nat}(s:Dv h0 n0 h n bo b12 cY L vr r)(m:Kp hs ns h n bo cY)(O:cY.num<ns.num)
 (D:Cl h n k [l] 252)(ip:bB h n .u32 l p)(np:gZ Bg p)(E:r.length<1000)(F:p.length<1000)(G:g<Bg)(hle:val Bg p<=val Bg r){Q1:Ex->Env->Hf->K->Prop}
 (o:∀e r' h' n' E',Dv h0 n0 h' n' bo b12 cY L e r'->Kp hs ns h' n' bo cY->(e=.ns\/ns.num<=e.blk.num)->val Bg r'=val Bg r - val Bg p->Q1 .normal E' h' n'):
 WC C ae0 [(lW,.p b12 0),(pT,.p cY 0),(vC,iN i),(yS,.i .u64 (g:Nat)),(sy,.p k 0)] h n Q1:=by
 have H:=G;simp only[Bg]at H;have P:=s.jR.1;have R:=m.1;refine ε<|ν U (bP s.jR.2 rfl)<|ν U (bP D.2 rfl)<|ah U U<|TP A E F s.CS.1 np s.ir ip hle <| λv1 r1 h1 n1 a q t u v=>aR U U ((s.jR.ext a).2) (bS rfl rfl (eN q.one)) <| λh2 w b2=>δ ?_;have c:bA cY h1 h2:=b2;have mR:=(s.mR.ext a).Ξ c (by omega);have x2:Ext h0 n0 h2 n1:=(s.ext.trans a).Ξ c (by omega);have k2:Kp hs ns h2 n1 bo cY:=(m.ext a).Ξ c (Or.inr (Or.inl U));obtain⟨ds,f,co⟩:=s.co;have j:=(co.ext a).Ξ c (by omega);have sep:v1=.ns\/cY.num<v1.blk.num:=v.imp id λh=>by omega
 have x:bB h2 n1 .u32 v1 r1:=q.Ξ c (sep.imp id λh=>by omega);have io:bB h2 n1 .u32 (.sl bo 0 L L) ds:=j.vG f;have S:=a.1;have y:v1=.ns\/ns.num<=v1.blk.num:=v.imp id λh=>by omega
 refine ε<|γ U<|ν U (mR.ld U _)<|aJ U io<|aH U U<|δ ?_;have I:Dv h0 n0 h2 n1 bo b12 cY L v1 r1:=⟨x2,mR,⟨by omega,w⟩,⟨ds,f,j⟩,x,t,sep⟩;by_cases hi:i<ds.length
 ·refine ax U (by simp<;>omega) ?_;refine aP<|ν U (mR.ld U _)<|γ U<|γ U<|nF U ⟨by omega,by omega⟩<|aV U U io hi<|aR U U j.2 (Fo hi _ (by simp[V.off])) <| λz J b3=>δ ?_;have d:bA bo h2 z:=b3;refine o v1 r1 z n1 _ ⟨x2.Ξ d B,mR.Ξ d (by omega),Cl.Ξ (n:=n1) ⟨by omega,w⟩ d (by omega),⟨_,by rw[j5];exact f,⟨by omega,J⟩⟩,x.Ξ d (sep.imp id λh=>by omega),t,sep⟩ (k2.Ξ d (Or.inl U)) y u
 ·exact az U (by simp<;>omega)<|ay (o v1 r1 h2 n1 _ I k2 y u)
def aj7(t:Cd C)(ho:n0.num<=bo.num)(NX:bo.num<b12.num)(DX:b12.num<cY.num)
 (c8:Cl h0 n0 b8 [vb] 252)(ib:bB h0 n0 .u32 vb b)(nb:gZ Bg b)(gg:b.length=size)(rz:2<=size)(dN:size<500)(c9:Cl h0 n0 b9 [iN size] 3)(oq:Cl h0 n0 fA [.i .u64 (b.getD (size - 1) 0:Nat)] 348)(rR:Cl h0 n0 km [.i .u64 (b.getD (size - 2) 0:Nat)] 348)
 (kI:Bg<=2*b.getD (size - 1) 0){vr:V}{r:List Nat}(s:Dv h0 n0 h n bo b12 cY L vr r)(hr:val Bg r<val Bg b){x:Nat}(hx:x<Bg){Q1:Ex->Env->Hf->K->Prop}
 (I:∀A r' h' n' E',Dv h0 n0 h' n' bo b12 cY L A r'->Kp h n h' n' bo cY->(A=.ns\/n.num<=A.blk.num)->val Bg r'=(x+Bg*val Bg r) % val Bg b->Q1 .normal E' h' n'):
 WC C Jt (Es b8 b9 fA km b12 cY i [(Nj,.i .u32 (x:Nat))]) h n Q1:=by
 have lC:r.length<=size:=by rw[←gg];exact uC s.CS.2 nb.1 (by decide) (fC hr)
 have sC:0<val Bg b:=by omega
 have eg:=s.jR.1;have auB:=s.ext.1;have kl:=hx;simp only[Bg]at kl;refine aA<|ES<|ε<|γ U<|jJ U <| λh1 n1 dd a1 e1=>χ U<|ν U ((s.jR.ext e1).ld U _)<|adI U (κ.whole (len:=1) (by omega) a1 rfl) U ((s.ir.ext e1)) (by omega) (by omega) (by omega) <| λv2 h2 n2 i2 e2 iw gH=>ah U U<|wz t (ξ _) (bB.aj2 i2) (by simp<;>omega) <| λm h3 k e3 i3 wJ kh=>px (rP rfl i3.cells i3.one)<|aR U U ((((s.jR.ext e1).ext e2).ext e3).2) (bS rfl rfl (eN i3.one)) <| λd a4 b4=>δ ?_;have J:bA cY h3 d:=b4;have M:=(e1.trans e2).trans e3;have z13:=M.1;have sR:Sm Bg (x::r):=Sm.cons hx s.CS.1;have o:gZ Bg (eM (x::r)):=Ai sR;have vR:val Bg (eM (x::r))=x+Bg*val Bg r:=by rw[yc];rfl
 have lR:(eM (x::r)).length<=size+1:=by have:=CE (x::r);simp only[eh]at this;omega
 generalize eM (x::r)=R at*;have hRb:val Bg R<Bg*val Bg b:=by rw[vR];have:Bg*(val Bg r+1)<=Bg*val Bg b:=sL _ hr;rw[iO]at this;omega
 have v3b:m.blk.num=n.num\/m.blk.num=n1.num:=by
  rw[wJ];rcases gH with h | h
  ·exact Or.inl (by rw[h])
  ·exact Or.inr (by rw[h])
 have x4:Ext h0 n0 d k:=(s.ext.trans M).Ξ J (by omega);have k4':Kp h n d k bo cY:=((Kp.refl h n bo cY).ext M).Ξ J (Or.inr (Or.inl U));have u:bB d k .u32 m R:=(i3.up e3.1).Ξ J (Or.inr (by omega));have jR:Cl d k cY [m] 252:=⟨by omega,a4⟩;obtain⟨ds,yp,co⟩:=s.co;have c:Dv h0 n0 d k bo b12 cY L m R:=⟨x4,(s.mR.ext M).Ξ J (by omega),jR,⟨ds,yp,(co.ext M).Ξ J (by omega)⟩,u,o,Or.inr (by omega)⟩;clear a1 i2 a4 b4;have l9:∀{h' n'},Ext d k h' n'->bc h' false 1 (.p b9 0)=some (iN size):=λe=>(c9.ext (x4.trans e)).ld U _;have NY:∀{h' n'},Ext d k h' n'->bc h' true 1 (.p cY 0)=some (.a [m]):=λe=>bP (jR.ext e).2 rfl;have q2:R.getD size 0<Bg:=o.1.getD (by decide) _;have q1:R.getD (size - 1) 0<Bg:=o.1.getD (by decide) _;have dg:=ahW (B:=Bg) (by decide) nb.1 gg rz kI o.1 hRb;have hP:=S1 (B:=Bg) (by decide) nb.1 gg rz (by simp only[Bg]at kI;omega);have F4:=dg.first
 have htb:b.getD (size - 1) 0<Bg:=nb.1.getD (by decide) _;have TW:∀{Q:V->Hf->K->Prop},(∀h' n',Ext d k h' n'->Q (.i .u64 (R.getD size 0:Nat)) h' n')->μ C (.f 293 [] []) [.a [m],iN size] d k Q:=λI=>Ap t u o.1 (by omega) I;have TX:∀{Q:V->Hf->K->Prop} {h' n'},Ext d k h' n'->(∀yO mG,Ext h' n' yO mG->Q (.i .u64 (R.getD (size - 1) 0:Nat)) yO mG)->μ C (.f 293 [] []) [.a [m],.i .i64 ((size - 1:Nat):Nat)] h' n' Q:=λe I=>Ap t (u.ext e) o.1 (by omega) I;have CU:0<b.getD (size - 1) 0:=by simp only[Bg]at kI;omega
 generalize hh:R.getD size 0*Bg+R.getD (size - 1) 0=head at*;generalize R.getD size 0=r2 at*;generalize R.getD (size - 1) 0=r1 at*;have YQ:=q2;have Hh:=q1;have hh':=hh;have KZ:=F4.2;simp only[Bg]at YQ Hh hh' KZ;refine eT<|aO U (NY (Ext.refl _ _)) (kK (u.below (ξ _))) (kL (κ.dL u))<|aO U (l9 (Ext.refl _ _)) U (gJ _ _)<|ch U U<|TW <| λh5 n5 v=>zZ U U ((show(r2:Int)*1000000000=((r2*1000000000:Nat):Int) by omega)) ⟨by omega,by omega⟩<|aO U (NY v) (kK ((u.ext v).below (ξ _))) (kL (κ.dL u))<|aO U (l9 v) U (gJ _ _)<|zY U U ((show(size:Int) - 1=((size - 1:Nat):Int) by omega)) ⟨by omega,by omega⟩<|ch U U<|TX v <| λh6 n6 e6=>Fs U U ((show((r2*1000000000:Nat):Int)+(r1:Int)=((head:Nat):Int) by omega)) ⟨by omega,by omega⟩<|aI U<|df (⟨⟨al (by simp[Nat.testBit]),cT (l9 (Ext.refl _ _)) (l9 v),trivial⟩,⟨al (by simp[Nat.testBit]),cT (NY (Ext.refl _ _)) (NY v),trivial⟩,⟨al (by simp[Nat.testBit]),al (by simp[Nat.testBit]),trivial⟩,⟨al (by simp[Nat.testBit]),al (by simp[Nat.testBit]),trivial⟩,trivial⟩) ?_;have D:Ext d k h6 n6:=v.trans e6;have x6:=x4.trans D;have k6':Kp h n h6 n6 bo cY:=k4'.ext D;clear v e6 TX TW;have d10:=oq.ext x6;have KX:(0:Int)<=((head / b.getD (size - 1) 0:Nat):Int):=qS _;have F3:((head / b.getD (size - 1) 0:Nat):Int)<=18446744073709551615:=by generalize head / b.getD (size - 1) 0=y at KZ ⊢;omega
 refine eT<|aI U<|aO U (d10.ld U _) U (gJ _ _)<|QY U U CU (⟨KX,F3⟩)<|aI U<|aO U (d10.ld U _) U (gJ _ _)<|adp U U CU<|aI U<|aI U<|df (by simp[AG,nE,pS,Nat.testBit]) ?_;refine φ<|ay<|φ<|aA ?_;have i6:=u.ext D;have aj9:=jR.ext D;have D9:head % b.getD (size - 1) 0<Bg:=Nat.lt_trans (oU _ CU) htb;refine au (ajZ t (c9.ext x6) d10 (rR.ext x6) aj9 i6 o.1 (by omega) rz (by omega) dg hP htb (b8:=b8) (b12:=b12) (i:=i) ?_ (head / b.getD (size - 1) 0) (head % b.getD (size - 1) 0) h6 n6 (Ext.refl _ _) (by rw[eR];exact zh _ _) F4.1 F4.2 D9) (Θ.rf U);intro g h7 j E7 N K0 CD YU hE;refine dO hE ?_;clear hE KX F3 D9 F4 KZ dg hP;have x7:=x6.trans N;have aka:=YU;simp only[Bg]at aka;have d8:=c8.ext x7;have Bb:=ib.ext x7;have e47:=D.trans N;have l8:∀{H:Hf},Ag j h7 H->bc H true 1 (.p b8 0)=some (.a [vb]):=λag=>bP (d8.ext (ag.x (ξ _))).2 rfl;refine eT<|aO U (l8 (Ag.refl _ _)) (kK (Bb.below (ξ _))) (kL (κ.dL Bb))<|aI U<|sZ U ⟨by omega,by omega⟩<|th U <| λh8 n8 yW a8 O=>ch U U<|wz t (l:=[g]) (ξ _) (κ.whole (len:=1) (by omega) a8 rfl) (by simp) <| λv9 h9 n9 w i9 YV Ba=>tc (rP rfl i9.cells i9.one)<|ch U U<|KW t (by omega) (by have:=CE [g];simp only[eh,mW]at this;omega) nb.1 (SY (Sm.cons YU Sm.nil)) ((Bb.ext O).ext w) (i9.up w.1) <| λv10 NZ jK z P i10 S akb akc=>tf <| λiD E TY AZ yX=>fK U U ((CK (by have:=w.1;have:=P.1;omega)).trans AZ) (bS rfl rfl (eN i10.one)) <| λF CW b12=>df (⟨⟨al (by simp[Nat.testBit]),al (by simp[Nat.testBit]),cT (l8 ((O.ag.hp z none (by have:=w.1;have:=P.1;omega)).hp j none (ξ _))) (l8 (((O.trans w).ag.hp z none (by have:=w.1;have:=P.1;omega)).hp j none (ξ _))),trivial⟩,trivial⟩) ?_;have z8:=O.1;have z9:=w.1;have z10:=P.1;have z11:z.num<=E.num:=by omega
 have TZ:bA z (hp iD j (jK j)) F:=b12;have T4:Ext (hp jK j none) z iD E:=yX;have akd:Ag j h7 F:=((((((O.trans w).trans P).ag.hp j none (ξ _)).ext T4 (by omega)).hp j (jK j) (ξ _)).Ξ TZ (by omega));have T:Ext h7 j F E:=akd.x (by omega);have T5:v10=.ns\/v10.blk.num≠j.num:=akc.imp id λh=>by omega
 have i12:bB F E .u32 v10 NZ:=(((i10.Ξ (jr jK j none) T5).ext T4).Ξ (jr iD j _) T5).Ξ TZ (i10.xF.imp id λh=>by omega);have Hj:Cl F E z [v10] 252:=⟨by omega,CW⟩;have G:val Bg NZ=g*val Bg b:=by rw[akb,yc];simp only[val,ou,j6];rw[eR]
 clear a8 AZ CW b12 i10 i9;have W:=e47.trans T;have N0:=x7.trans T;have pY:Dv h0 n0 F E bo b12 cY L m R:=⟨N0,c.mR.ext W,c.jR.ext W,by obtain⟨ds,g1,X⟩:=c.co;exact⟨ds,g1,X.ext W⟩,c.ir.ext W,o,c.sep⟩;have ake:Kp h n F E bo cY:=(k6'.ext N).ext T;have jZ:NZ.length<=size+1:=by apply Ti (B:=Bg) S.2 (by decide);rw[G,iM,←gg];have h1:=tx nb.1;have h3:g*val Bg b<=Bg*val Bg b:=gE _ (by omega);have d:Bg*val Bg b<Bg*Bg ^ b.length:=Eu h1 (by decide);rw[eR (Bg ^ b.length)];omega
 have T6:∀g',g'*val Bg b<=val Bg R->val Bg R<g'*val Bg b+val Bg b->val Bg R - g'*val Bg b=(x+Bg*val Bg r) % val Bg b:=λg' h1 h2=>by rw[←vR];exact ahQ sC h1 h2
 have rF:val Bg R<(g+1)*val Bg b:=eE ((Bt sC).1 (Nat.lt_succ_of_le CD)) (ξ _);rw[ie,Nat.one_mul]at rF;refine φ<|ε<|ν U (bP Hj.2 rfl)<|ν U (bP pY.jR.2 rfl)<|ah U U<|TM t (by omega) (by omega) S o i12 pY.ir <| λpZ xa q=>dH U U<|δ ?_;rw[G];have Y:=W.trans q;have N1:Dv h0 n0 pZ xa bo b12 cY L m R:=⟨N0.trans q,c.mR.ext Y,c.jR.ext Y,by obtain⟨ds,g1,X⟩:=c.co;exact⟨ds,g1,X.ext Y⟩,c.ir.ext Y,o,c.sep⟩;have T7:Kp h n pZ xa bo cY:=ake.ext q;by_cases Hi:val Bg R<g*val Bg b
 ·have rI:jc (g*val Bg b) (val Bg R)=1:=by unfold jc;rw[Γ (by omega),ab Hi]
  rw[rI];have yf:0<g:=by
   rcases Nat.eq_zero_or_pos g with h | h
   ·rw[h,Nat.zero_mul]at Hi;omega
   ·exact h
  have CR:(g - 1)*val Bg b+val Bg b=g*val Bg b:=by rw[←tQ];congr 1;omega
  refine ax U (by simp) ?_;refine ε<|γ U<|py U U ((show(g:Int) - 1=((g - 1:Nat):Int) by omega)) ⟨by omega,by omega⟩<|γ U<|δ ?_;have d8':=(d8.ext T).ext q;refine aP<|ν U (bP (Hj.ext q).2 rfl)<|ν U (bP d8'.2 rfl)<|ah U U<|TP t (by omega) (by omega) S.1 nb (i12.ext q) ((Bb.ext T).ext q) (by rw[G];omega) <| λv14 YW uP Ea xf i14 T8 akf akg=>aR U U (((Hj.ext q).ext xf).2) (bS rfl rfl (eN i14.one)) <| λZ K1 Hk=>δ ?_;have C0:bA z uP Z:=Hk;have auC:=q.1;have z14:=xf.1;have zn:n.num<=z.num:=by have:=D.1;have:=N.1;omega
  have C1:Ext d k Z Ea:=(Y.trans xf).Ξ C0 (by have:=D.1;have:=N.1;omega);have s15:Dv h0 n0 Z Ea bo b12 cY L m R:=⟨x4.trans C1,c.mR.ext C1,c.jR.ext C1,by obtain⟨ds,g1,X⟩:=c.co;exact⟨ds,g1,X.ext C1⟩,c.ir.ext C1,o,c.sep⟩;have akh:Kp h n Z Ea bo cY:=(T7.ext xf).Ξ C0 (Or.inr (Or.inr (by omega)));have i15:bB Z Ea .u32 v14 YW:=i14.Ξ C0 (akg.imp id λh=>by omega);rw[G]at akf;have K2:val Bg YW=(g - 1)*val Bg b:=by omega
  have auD:YW.length<=NZ.length:=uC T8.2 S.1 (by decide) (by rw[K2,G];omega);refine au (TU t ho NX DX (i:=i) (g:=g - 1) s15 akh (by omega) ⟨by omega,K1⟩ i15 T8 (by omega) (by omega) (by omega) (by rw[K2];omega) ?_) (Θ.rf U);intro A r' h' n' E' s' k' K5 eO;refine I A r' h' n' E' s' k' K5 ?_;rw[eO,K2];exact T6 _ (by omega) (by omega)
 ·have rI:¬ 0<jc (g*val Bg b) (val Bg R):=by unfold jc;split<;>(try split)<;>omega
  refine az U (by simpa using rI)<|ay ?_;refine au (TU t ho NX DX (i:=i) (g:=g) N1 T7 (by omega) (Hj.ext q) (i12.ext q) S (by omega) (by omega) YU (by rw[G];omega) ?_) (Θ.rf U);intro A r' h' n' E' s' k' K5 eO;refine I A r' h' n' E' s' k' K5 ?_;rw[eO,G];exact T6 _ (by omega) (by omega)
end
end
section
variable {C:Nat->Option aE}{h:Hf}{n:K}{Q:V->Hf->K->Prop}
section
variable {hs:Hf}{ns b2 b4 b5 b6 b7 b8 b9 fA km b12 cY bo:K}{L:Nat}
def aki(A:Cd C){vs vr:V}{s:Nat}{r ds:List Nat}(x:Ext hs ns h n)(wK:ns.num<=b4.num)(Hg:b4.num<b5.num)(X:0<s)(Y:s<Bg)
 (c4:Cl h n b4 [.ns] 252)(c5:Cl h n b5 [.ns] 252)(c6:Cl h n b6 [vs] 252)(is:bB h n .u32 vs [s])(mR:Cl h n b12 [.sl bo 0 L L] 250)(co:Cl h n bo (nC .u32 ds) 309)(Z:ds.length=L)(hL:L<2000)(hbo:b5.num<bo.num)
 (jR:Cl h n cY [vr] 252)(ir:bB h n .u32 vr r)(nr:gZ Bg r)(lC:r.length<1000)
 (hQ:∀B q e r2 h' n',Ext hs ns h' n'->bB h' n' .u32 B q->bB h' n' .u32 e r2->gZ Bg r2->val Bg r2=val Bg r / s->(e=.ns\/ns.num<=e.blk.num)->Q (.u [.a [B],.a [e]]) h' n'):
 WC C ae1 [(k4,.p b4 0),(k5,.p b5 0),(k6,.p b6 0),(lW,.p b12 0),(pT,.p cY 0)] h n (fq [.cell k4 true 1,.cell k5 true 1] Q):=by
 have h0:0<([s]:List Nat).length:=by simp
 have z4:=c4.1;have z5:=c5.1;have zo:=co.1;have zx:=x.1;refine eT<|aO U (bP jR.2 rfl) (kK (ir.below (ξ _))) (kL (κ.dL ir))<|cI U<|aO U (c6.ld U _) (is.below (ξ _)) (κ.dL is)<|js U U is h0<|aO U (is.get h0 _) U (gJ _ _)<|ch U U<|TR A lC nr.1 X Y ir <| λv1 q1 e q2 h1 n1 l D nq1 vq1 E nq2 vq2 s1 s2=>aI U<|zW U U<|zW U U<|tf <| λh2 m iw F G=>tf <| λo f kh I J=>fK U U ((eJ o n1 (h2 n1)).trans F) (bS rfl rfl (eN D.one)) <| λM N t=>fK U U ((t m (by omega)).trans ((CK (by omega)).trans I)) (bS rfl rfl (eN E.one)) <| λc a5 O=>df (⟨⟨al (by simp[Nat.testBit]),al (by simp[Nat.testBit]),al (by simp[Nat.testBit]),trivial⟩,⟨al (by simp[Nat.testBit]),al (by simp[Nat.testBit]),al (by simp[Nat.testBit]),trivial⟩,⟨al (by simp[Nat.testBit]),al (by simp[Nat.testBit]),al (by simp[Nat.testBit]),trivial⟩,trivial⟩) ?_;have CQ:bA n1 (hp o n1 (h2 n1)) M:=t;have P:bA m M c:=O;have D7:Ext (hp h2 n1 none) m o f:=J;have ag5:Ag n1 h1 c:=(((((G.ag.hp n1 none (ξ _)).ext D7 (by omega)).hp n1 (h2 n1) (ξ _)).Ξ CQ (ξ _)).Ξ P (by omega));have v:Ext h1 n1 c f:=ag5.x (by omega);have g:=D.ext v;have R:Cl c f n1 [v1] 252:=⟨by omega,(P n1 (by omega)).trans N⟩;have d:=l.trans v;have d4:=c4.ext d;have d5:=c5.ext d;have d12:=mR.ext d;have do':=co.ext d;have io:bB c f .u32 (.sl bo 0 L L) ds:=do'.vG Z;clear F I N a5 G J t O E;have x5:=x.trans d;have i:∀{H:Hf},Ag f c H->bc H true 1 (.p n1 0)=some (.a [v1]):=λag=>bP (R.ext (ag.x (ξ _))).2 rfl;have zz:=d.1;have z15:=v.1;refine eT<|aO U (d12.ld U _) (io.below (ξ _)) (κ.dL io)<|ch U U<|wz A (ξ _) io (by omega) <| λw h6 S b j hb6 hs6=>tc (rP rfl j.cells j.one)<|aO U (i b.ag) (kK ((g.ext b).below (ξ _))) (kL (κ.dL g))<|fK U U ((d4.ext b).2) (bS rfl rfl (eN j.one)) <| λT a7 y=>fK U U ((Cl.Ξ (n:=S) (d5.ext b) y (by omega)).2) (bS rfl rfl (eN g.one)) <| λW a8 rU=>df (⟨⟨al (by simp[Nat.testBit]),cT (i b.ag) (bP ((y n1 (by have:=l.1;omega)).trans (R.ext b).2) U),cT (i (Ag.refl _ _)) (i b.ag),trivial⟩,⟨al (by simp[Nat.testBit]),al (by simp[Nat.testBit]),al (by simp[Nat.testBit]),trivial⟩,trivial⟩) ?_;have z:bA b4 h6 T:=y;have k:bA b5 T W:=rU;refine aj ⟨_,Fi rfl (bP (l':=[w]) ((k b4 (by omega)).trans a7) U) U (bP a8 rfl),?_⟩;have k6:w.blk.num=bo.num:=by rw[hb6];rfl
 have z1:=l.1;have z6:=b.1;refine hQ w (eM ds) v1 q1 W S (((x5.trans b).Ξ z (by omega)).Ξ k (by omega)) ?_ ?_ nq1 vq1 (s1.imp id λh=>by omega)
 ·exact((j.up z6).Ξ z (Or.inr (by omega))).Ξ k (Or.inr (by omega))
 ·exact((g.ext b).Ξ z (s1.imp id λh=>by omega)).Ξ k (s1.imp id λh=>by omega)
def akn(D:Cd C){va vs E S:V}{a A B ss:List Nat}{s size:Nat}(x:Ext hs ns h n)(wK:ns.num<=b4.num)(Hg:b4.num<b5.num)(oR:0<s)(Hl:s<Bg)
 (c2:Cl h n b2 [va] 252)(ia:bB h n .u32 va a)(nY:a.length<900)(c4:Cl h n b4 [.ns] 252)(c5:Cl h n b5 [.ns] 252)(c6:Cl h n b6 [vs] 252)(is:bB h n .u32 vs [s])
 (c7:Cl h n b7 [E] 252)(T:bB h n .u32 E A)(nA:Sm Bg A)(hlA:A.length<1000)
 (c8:Cl h n b8 [S] 252)(iB:bB h n .u32 S B)(F:gZ Bg B)(G:B.length=size)(W:2<=size)(dN:size<500)(c9:Cl h n b9 [iN size] 3)(oq:Cl h n fA [.i .u64 (B.getD (size - 1) 0:Nat)] 348)(rR:Cl h n km [.i .u64 (B.getD (size - 2) 0:Nat)] 348)
 (kI:Bg<=2*B.getD (size - 1) 0)
 (hQ:∀w q l r2 h' n',Ext hs ns h' n'->bB h' n' .u32 w q->bB h' n' .u32 l r2->gZ Bg r2->val Bg r2=val Bg A % val Bg B / s->(l=.ns\/ns.num<=l.blk.num)->Q (.u [.a [w],.a [l]]) h' n'):
 WC C Js [(k2,.p b2 0),(k4,.p b4 0),(k5,.p b5 0),(k6,.p b6 0),(k7,.p b7 0),(k8,.p b8 0),(k9,.p b9 0),(oK,.p fA 0),(sx,.p km 0)] h n (fq [.cell k4 true 1,.cell k5 true 1] Q):=by
 have X:0<val Bg B:=by have:=S1 (B:=Bg) (by decide) F.1 G W (by simp only[Bg]at kI;omega);have h2:0<Bg ^ (size - 2)*Bg:=Nat.mul_pos (Nat.pow_pos (by decide)) (by decide);omega
 refine ε<|χ U<|ν U (c2.ld U _)<|aJ U ia<|nH U U ((show(a.length:Int)+1=((a.length+1:Nat):Int) by omega)) ⟨by omega,by omega⟩<|xY U U (by omega) (by omega) <| λh1 n1 dd Y H=>bN <| λh2 k iw a2 Z=>aR U U a2 U <| λJ a3 b3=>δ ?_;rw[Fl]at Y;have x3:Ext h n J k:=(H.trans Z).Ξ b3 (by omega);have co:Cl J k n (nC .u32 (List.replicate (a.length+1) 0)) 309:=Cl.Ξ (n:=k) (Cl.ext ⟨by omega,Y⟩ Z) b3 (by omega);refine ε<|px U<|bN <| λh4 M mQ a4 e4=>aR U U a4 U <| λN a5 wZ=>δ ?_;have O:Ext J k N M:=e4.Ξ wZ (ξ _);have P:=x3.trans O;have mR:Cl N M n1 [.sl n 0 (a.length+1) (a.length+1)] 250:=Cl.ext ⟨by omega,a3⟩ O;have dv:Dv h n N M n n1 k (a.length+1) .ns []:=⟨P,mR,⟨by omega,a5⟩,⟨_,by simp,co.ext O⟩,bB.nil,gZ.nil,Or.inl U⟩;have d7:=c7.ext P;have iA5:=T.ext P;refine φ<|ε<|χ U<|ν U (d7.ld U _)<|ah U U<|KT D iA5 (by omega) ?_;intro y e h6 m v a6 pg gH it;refine δ ?_;have y6:=v.1;have zx:=x.1;have z:Dv h n h6 m n n1 k (a.length+1) .ns []:=⟨dv.ext.trans v,dv.mR.ext v,dv.jR.ext v,by obtain⟨ds,g1,d⟩:=dv.co;exact⟨ds,g1,d.ext v⟩,bB.nil,gZ.nil,Or.inl U⟩;let I:Nat->Hf->K->Prop:=λj h' n'=>(y.num<n'.num/\h' y=some (.c [E] e 0))/\∃vr r,Dv h n h' n' n n1 k (a.length+1) vr r/\(vr=.ns\/m.num<vr.blk.num)/\val Bg r=val Bg (A.drop (A.length - j)) % val Bg B;have ako:∀{h1 m1 h2 m2 vr r},Dv h n h1 m1 n n1 k (a.length+1) vr r->Ext h1 m1 h2 m2->Dv h n h2 m2 n n1 k (a.length+1) vr r:=λs e=>⟨s.ext.trans e,s.mR.ext e,s.jR.ext e,by obtain⟨ds,g1,d⟩:=s.co;exact⟨ds,g1,d.ext e⟩,s.ir.ext e,s.CS,s.sep⟩;refine aA<|tj U it I (λ_ _ _=>False) ?_ ?_ ?_ ?_ ?_ ?_ ?_ ?_
 ·rintro j h1 m1 h' n' ⟨⟨d,o⟩,vr,r,b,gs,g⟩ ex;exact⟨⟨eE d ex.1,by rw[ex.2 _ d];exact o⟩,vr,r,ako b ex,gs,g⟩
 ·rintro j h1 m1 h' ⟨⟨d,o⟩,vr,r,b,gs,g⟩ f;refine⟨⟨d,by rw[f _ (by omega)];exact o⟩,vr,r,⟨b.ext.Ξ f (by omega),b.mR.Ξ f (by omega),b.jR.Ξ f (by omega),by obtain⟨ds,f1,f2⟩:=b.co;exact⟨ds,f1,f2.Ξ f (by omega)⟩,b.ir.Ξ f (gs.imp id λh=>by omega),b.CS,b.sep⟩,gs,g⟩
 ·rintro j h1 m1 ⟨d,vr,r,b,_⟩;exact⟨d.1,d.2,T.ext b.ext⟩
 ·intro j hj;rw[qD];rfl
 ·intro h' f;have KM:m.succ.num=m.num+1:=K.eI m;refine⟨⟨by omega,by rw[f _ (by omega)];exact a6⟩,.ns,[],⟨(z.ext.Ξ f (by omega)).succ,(z.mR.Ξ f (by omega)).up (by omega),(z.jR.Ξ f (by omega)).up (by omega),by obtain⟨ds,f1,f2⟩:=z.co;exact⟨ds,f1,(f2.Ξ f (by omega)).up (by omega)⟩,bB.nil,gZ.nil,Or.inl U⟩,Or.inl U,?_⟩;rw[mY,oS];simp[val]
 ·rintro j hj h7 n7 E1 sG ⟨⟨d,o⟩,vr,r,b,gs,g⟩ R;have bR:j<A.length:=by rw[nJ]at hj;exact hj
  rw[qD]at R;simp only[jF,kV]at R;subst R;have hi:A.length - 1 - j<A.length:=by omega
  rw[show A.length - j=(A.length - 1 - j)+1 by omega]at g;have rJ:A.length - (j+1)=A.length - 1 - j:=by omega
  generalize A.length - 1 - j=i at*;rw[pD hi];refine ε<|γ U<|δ<|aP<|γ U<|δ ⟨rfl,rfl,λh8 t=>?_⟩;have g4':Dv h n h8 n7 n n1 k (a.length+1) vr r:=⟨b.ext.Ξ t (by omega),b.mR.Ξ t (by omega),b.jR.Ξ t (by omega),by obtain⟨ds,f1,f2⟩:=b.co;exact⟨ds,f1,f2.Ξ t (by omega)⟩,b.ir.Ξ t (gs.imp id λh=>by omega),b.CS,b.sep⟩;refine au (aj7 D (i:=i) (ξ _) (by omega) (by omega) c8 iB F G W dN c9 oq rR kI g4' (by rw[g];exact oU _ X) (nA.get hi) ?_) (Θ.rf U);intro sH r' h' n' E' s' k' K5 eO;have z1:=k'.1;refine⟨by omega,k'.2 m (by omega) (by omega) (by omega),⟨by omega,(k'.2 y d (by omega) (by omega)).trans ((t y (by omega)).trans o)⟩,sH,r',s',K5.imp id λh=>by omega,?_⟩;rw[rJ,eO,Ah A hi,g,SZ]
 ·rintro h' n' sG ⟨⟨d,o⟩,vr,r,b,gs,g⟩;rw[nJ,kY,ig]at g;obtain⟨ds,yp,f2⟩:=b.co;have xx:=x.trans b.ext;have hlr:r.length<=size:=by rw[←G];exact uC b.CS.2 F.1 (by decide) (by rw[g];exact fC (oU _ X))
  have z5:=c5.1;refine au (aki D xx wK Hg oR Hl (c4.ext b.ext) (c5.ext b.ext) (c6.ext b.ext) (is.ext b.ext) b.mR f2 yp (by omega) (by omega) b.jR b.ir b.CS (by omega) (λw q l r2 yO mG H i1 i2 Eb K7 s2=>hQ w q l r2 yO mG H i1 i2 Eb (by rw[K7,g]) s2)) (Θ.rf U)
 ·rintro ex h' n' nG sG hf;exact hf.elim
end
end
section
variable {C:Nat->Option aE}{h:Hf}{n:K}{Q:V->Hf->K->Prop}
section
variable {hs:Hf}{ns b2 b3 b4 b5:K}
def akp(hC:Cd C){va vb:V}{a b:List Nat}(x:Ext hs ns h n)(wK:ns.num<=b4.num)(Hg:b4.num<b5.num)
 (c2:Cl h n b2 [va] 252)(ia:bB h n .u32 va a)(nY:a.length<400)(na:gZ Bg a)(c3:Cl h n b3 [vb] 252)(ib:bB h n .u32 vb b)(lU:b.length<400)(nb:gZ Bg b)(gH:2<=b.length)(c4:Cl h n b4 [.ns] 252)(c5:Cl h n b5 [.ns] 252)
 (hQ:∀S q G r2 h' n',Ext hs ns h' n'->bB h' n' .u32 S q->bB h' n' .u32 G r2->gZ Bg r2->val Bg r2=val Bg a % val Bg b->(G=.ns\/ns.num<=G.blk.num)->Q (.u [.a [S],.a [G]]) h' n'):
 WC C RI [(k2,.p b2 0),(k3,.p b3 0),(k4,.p b4 0),(k5,.p b5 0)] h n (fq [.cell k4 true 1,.cell k5 true 1] Q):=by
 have T:b.length - 1<b.length:=by omega
 have g1:bc h false 1 (.p vb.blk (vb.off+(b.length - 1)*1))=some (.i .u32 (b.getD (b.length - 1) 0:Nat)):=by rw[pD T];exact ib.get T 1
 have q1:b.getD (b.length - 1) 0<Bg:=nb.1.getD (by decide) _;have Hh:=q1;simp only[Bg]at Hh;generalize N4:b.getD (b.length - 1) 0=z at*;obtain⟨s,J⟩:∃s,s=1000000000 / (z+1):=⟨_,rfl⟩;have kO:s<=1000000000:=by rw[J];exact Nat.div_le_self _ _
 have z2:=c2.1;have z3:=c3.1;refine ε<|χ U<|ν U (c3.ld U _)<|χ U<|ν U (c3.ld U _)<|aJ U ib<|py U U (show(b.length:Int) - 1=((b.length - 1:Nat):Int) by omega) ⟨by omega,by omega⟩<|aV U U ib T<|ν U g1<|nF U ⟨by omega,by omega⟩<|nH U U (show(z:Int)+1=((z+1:Nat):Int) by omega) ⟨by omega,by omega⟩<|QX (a:=1000000000) (b:=z+1) U U (by omega) ⟨qS _,by rw[←J];omega⟩<|?_;rw[←J];refine nF U ⟨by omega,by omega⟩<|jJ U <| λh1 n1 dd a1 W=>px (rP (v:=.sl n 0 1 1) U U U)<|bN <| λh2 L iw a2 e2=>aR U U a2 (bS rfl rfl rfl) <| λm a3 wX=>δ ?_;have T9:bA n1 h2 m:=wX;have M:Ext h n m L:=(W.trans e2).Ξ T9 (by omega);have is3:bB m n1 .u32 (.sl n 0 1 1) [s]:=(bB.ext (n:=n1) (κ.whole (len:=1) (by omega) a1 rfl) (⟨ξ _,λk hk=>(T9 k (by omega)).trans (e2.2 k hk)⟩));have c6:Cl m L n1 [.sl n 0 1 1] 252:=⟨by omega,a3⟩;have d2:=c2.ext M;have d3:=c3.ext M;have tK:=ia.ext M;have wY:=ib.ext M;have A:bB m L .u32 (.sl n 0 1 1) [s]:=is3.up (by omega);have l3:∀{H:Hf},Ag L m H->bc H true 1 (.p b3 0)=some (.a [vb]):=λag=>bP (d3.ext (ag.x (ξ _))).2 rfl;have l6:∀{H:Hf},Ag L m H->bc H true 1 (.p n1 0)=some (.a [.sl n 0 1 1]):=λag=>bP (c6.ext (ag.x (ξ _))).2 rfl;have uQ:∀{l:List Nat},gZ Bg l->val Bg l=val Bg b*s->l.length=b.length/\Bg<=2*l.getD (b.length - 1) 0/\1<=s/\s<Bg:=λhn hv=>
  ahX (B:=Bg) (H:=500000000) (by decide) (by decide) nb (by omega) (by rw[N4,J]) hn hv
 have Hl:s<Bg:=by
  have h1:s<=1000000000:=kO;rcases jA s Bg with h | h
  ·exact h
  ·exfalso;have auE:0<z:=by
    have aG:b≠[]:=λe=>by rw[e]at gH;simp at gH
    have:=nb.2 aG;rw[List.getLast_eq_getElem,←pD T]at this;omega
   have:s*(z+1)<=1000000000:=by rw[J];exact Nat.div_mul_le_self _ _
   have m:Bg*2<=s*(z+1):=zp h (by omega);simp only[Bg]at m;omega
 have sS:Sm Bg [s]:=Sm.cons Hl Sm.nil;clear g1 a1 a2 a3 wX W e2;refine eT<|aO U (bP d2.2 rfl) (kK (tK.below (ξ _))) (kL (κ.dL tK))<|aO U (l6 (Ag.refl _ _)) (kK (A.below (ξ _))) (kL (κ.dL A))<|ch U U<|KW hC (by omega) (by simp) na.1 sS tK A <| λv4 p4 h4 n4 f i4 np4 vl4 auF=>aO U (l3 f.ag) (kK ((wY.ext f).below (ξ _))) (kL (κ.dL wY))<|aO U (l6 f.ag) (kK ((A.ext f).below (ξ _))) (kL (κ.dL A))<|ch U U<|KW hC (by omega) (by simp) nb.1 sS (wY.ext f) (A.ext f) <| λv5 d h5 g j i5 X vl5 K8=>tf <| λY t jh a6 e6=>tf <| λh7 y sG a7 e7=>fK U U ((eJ h7 g (Y g)).trans a6) (bS rfl rfl (eN i4.one)) <| λh8 a8 rU=>fK U U ((rU t (by omega)).trans ((CK (by omega)).trans a7)) (bS rfl rfl (eN i5.one)) <| λI a9 b9'=>df (⟨⟨al (by simp[Nat.testBit]),al (by simp[Nat.testBit]),al (by simp[Nat.testBit]),cT (l6 (((Ag.refl _ _).hp t none (by have:=f.1;have:=j.1;omega)).hp g none (by have:=f.1;have:=j.1;omega))) (l6 ((f.ag.hp t none (by have:=f.1;have:=j.1;omega)).hp g none (by have:=f.1;have:=j.1;omega))),trivial⟩,⟨al (by simp[Nat.testBit]),al (by simp[Nat.testBit]),al (by simp[Nat.testBit]),cT (l3 (((Ag.refl _ _).hp t none (by have:=f.1;have:=j.1;omega)).hp g none (by have:=f.1;have:=j.1;omega))) (l3 ((f.ag.hp t none (by have:=f.1;have:=j.1;omega)).hp g none (by have:=f.1;have:=j.1;omega))),trivial⟩,⟨al (by simp[Nat.testBit]),al (by simp[Nat.testBit]),al (by simp[Nat.testBit]),al (by simp[Nat.testBit]),trivial⟩,⟨al (by simp[Nat.testBit]),al (by simp[Nat.testBit]),al (by simp[Nat.testBit]),al (by simp[Nat.testBit]),trivial⟩,trivial⟩) ?_;have z4:=f.1;have z5:=j.1;have Aq:bA g (hp h7 g (Y g)) h8:=rU;have Ua:bA t h8 I:=b9';have K9:Ext (hp Y g none) t h7 y:=e7;have ag9:Ag g h5 I:=(((((e6.ag.hp g none (ξ _)).ext K9 (by omega)).hp g (Y g) (ξ _)).Ξ Aq (ξ _)).Ξ Ua (by omega));have Z:Ext h5 g I y:=ag9.x (by omega);have e39:=(f.trans j).trans Z;have c7:Cl I y g [v4] 252:=⟨by omega,(Ua g (by omega)).trans a8⟩;have c8:Cl I y t [v5] 252:=⟨by omega,a9⟩;have i4':=(i4.ext j).ext Z;have YY:=i5.ext Z;clear a6 a7 a8 a9 e6 e7 rU b9';have z59:=Z.1;obtain⟨N7,N8,oR,_⟩:=uQ X (by rw[vl5];simp only[val,ou,j6]);rw[←N7]at N8;refine ε<|χ U<|ν U (c8.ld U _)<|aJ U YY<|bN <| λjK c Ub sr hX=>aR U U sr U <| λw AZ Uc=>δ ?_;have akt:bA y jK w:=Uc;have F5:Ext I y w c:=hX.Ξ akt (ξ _);have c9:Cl w c y [iN d.length] 3:=⟨by omega,AZ⟩;have c8':=c8.ext F5;have D:=YY.ext F5;clear sr AZ hX Uc;have La:d.length - 1<d.length:=by omega
 have uA:d.length - 2<d.length:=by omega
 have YZ:∀{H:Hf},Ag c w H->bc H false 1 (.p v5.blk (v5.off+(d.length - 1)*1))=some (.i .u32 (d.getD (d.length - 1) 0:Nat)):=λag=>by rw[pD La];exact(D.ext (ag.x (ξ _))).get La 1
 have Lc:∀{H:Hf},Ag c w H->bc H false 1 (.p v5.blk (v5.off+(d.length - 2)*1))=some (.i .u32 (d.getD (d.length - 2) 0:Nat)):=λag=>by rw[pD uA];exact(D.ext (ag.x (ξ _))).get uA 1
 have l8:∀{H:Hf},Ag c w H->bc H false 1 (.p t 0)=some v5:=λag=>cH (c8'.ext (ag.x (ξ _))).2 rfl _;have l9:∀{H:Hf},Ag c w H->bc H false 1 (.p y 0)=some (iN d.length):=λag=>cH (c9.ext (ag.x (ξ _))).2 rfl _;have qt1:d.getD (d.length - 1) 0<1000000000:=X.1.getD (by decide) _;have qt2:d.getD (d.length - 2) 0<1000000000:=X.1.getD (by decide) _;have N9:=D.below (ξ c.num);have auG:d.length<1000:=by omega
 refine eT<|cI U<|aO U (l8 (Ag.refl _ _)) N9 (κ.dL D)<|aO U (l9 (Ag.refl _ _)) U (gJ _ _)<|zY U U ((show(d.length:Int) - 1=((d.length - 1:Nat):Int) by omega)) ⟨by omega,by omega⟩<|js U U D La<|aO U (YZ (Ag.refl _ _)) U (gJ _ _)<|sZ U ⟨by omega,by omega⟩<|cI U<|aO U (l8 (Ag.refl _ _)) N9 (κ.dL D)<|aO U (l9 (Ag.refl _ _)) U (gJ _ _)<|zY U U ((show(d.length:Int) - 2=((d.length - 2:Nat):Int) by omega)) ⟨by omega,by omega⟩<|js U U D uA<|aO U (Lc (Ag.refl _ _)) U (gJ _ _)<|sZ U ⟨by omega,by omega⟩<|tf <| λo r Q5 CW E=>tf <| λpZ xa aku YM F=>fK U U ((eJ pZ c (o c)).trans CW) U <| λuP D6 N=>fK U U ((N r (by omega)).trans ((CK (by omega)).trans YM)) U <| λO K1 C0=>df (⟨⟨al (by simp[Nat.testBit]),cT (Lc (((((E.ag.hp c none (ξ _)).ext F (by omega)).hp c (o c) (ξ _)).hp r none (by omega)).hp c none (ξ _))) (Lc ((((((E.ag.hp c none (ξ _)).ext F (by omega)).hp c (o c) (ξ _)).Ξ N (ξ _)).hp r none (by omega)).hp c none (ξ _))),trivial⟩,⟨al (by simp[Nat.testBit]),cT (l9 (((((E.ag.hp c none (ξ _)).ext F (by omega)).hp c (o c) (ξ _)).hp r none (by omega)).hp c none (ξ _))) (l9 ((((((E.ag.hp c none (ξ _)).ext F (by omega)).hp c (o c) (ξ _)).Ξ N (ξ _)).hp r none (by omega)).hp c none (ξ _))),trivial⟩,⟨al (by simp[Nat.testBit]),cT (l8 (((((E.ag.hp c none (ξ _)).ext F (by omega)).hp c (o c) (ξ _)).hp r none (by omega)).hp c none (ξ _))) (l8 ((((((E.ag.hp c none (ξ _)).ext F (by omega)).hp c (o c) (ξ _)).Ξ N (ξ _)).hp r none (by omega)).hp c none (ξ _))),trivial⟩,⟨al (by simp[Nat.testBit]),al (by simp[Nat.testBit]),trivial⟩,⟨al (by simp[Nat.testBit]),al (by simp[Nat.testBit]),trivial⟩,⟨al (by simp[Nat.testBit]),al (by simp[Nat.testBit]),trivial⟩,trivial⟩) ?_;have akv:bA c (hp pZ c (o c)) uP:=N;have Ud:bA r uP O:=C0;have akw:Ext (hp o c none) r pZ xa:=F;have akx:Ag c w O:=(((((E.ag.hp c none (ξ _)).ext akw (by omega)).hp c (o c) (ξ _)).Ξ akv (ξ _)).Ξ Ud (by omega));have Ue:Ext w c O xa:=akx.x (by omega);have oq:Cl O xa c [.i .u64 (d.getD (d.length - 1) 0:Nat)] 348:=⟨by omega,(Ud c (by omega)).trans D6⟩;have rR:Cl O xa r [.i .u64 (d.getD (d.length - 2) 0:Nat)] 348:=⟨by omega,K1⟩;have P:=F5.trans Ue;have Ld:=e39.trans P;have R:=M.trans Ld;have auH:=F5.1;have hp4:val Bg p4=val Bg a*s:=by rw[vl4];simp only[val,ou,j6]
 have hp5:val Bg d=val Bg b*s:=by rw[vl5];simp only[val,ou,j6]
 have auI:p4.length<=a.length+1:=by apply Ti (B:=Bg) np4.2 (by decide);rw[hp4,iM];have h1:=tx na.1;have m:val Bg a*s<=val Bg a*Bg:=sL _ (by omega);have h4:val Bg a*Bg<Bg ^ a.length*Bg:=Nat.mul_lt_mul_of_pos_right h1 (by decide);omega
 refine au (akn (ss:=[]) hC (x.trans R) wK Hg oR Hl (c2.ext R) (ia.ext R) (by omega) (c4.ext R) (c5.ext R) (c6.ext Ld) (A.ext Ld) (c7.ext P) (i4'.ext P) np4.1 (by omega) (c8.ext P) (YY.ext P) X rfl (by omega) (by omega) (c9.ext Ue) oq rR N8 ?_) (Θ.rf U);intro S q G r2 h' n' W i1 i2 Eb K7 s2;refine hQ S q G r2 h' n' W i1 i2 Eb ?_ s2;rw[K7,hp4,hp5,Nat.mul_mod_mul_right,Nat.mul_div_cancel _ oR]
end
def akz(m:Cd C){va vb:V}{a b:List Nat}(nY:a.length<400)(lU:b.length<400)(na:gZ Bg a)(nb:gZ Bg b)(Y:b≠[])(B:bB h n .u32 va a)(ib:bB h n .u32 vb b)
 (D:∀o q c r2 h' n',Ext h n h' n'->bB h' n' .u32 o q->bB h' n' .u32 c r2->gZ Bg r2->val Bg r2=val Bg a % val Bg b->(c=va\/c=.ns\/n.num<=c.blk.num)->Q (.u [.a [o],.a [c]]) h' n'):μ C (.f 251 [] []) [.a [va],.a [vb]] h n Q:=by
 refine μ.go m.f251 U ?_;refine ε<|eL U U (eN B.one) <| λh1 n1 dd Z E=>eL U U (eN ib.one) <| λh2 k iw a2 e2=>bN <| λh3 F kh a3 G=>bN <| λr s mQ a4 t=>δ ?_;have x4:=((E.trans e2).trans G).trans t;have c2:Cl r s n [va] 252:=Cl.ext (Cl.ext (Cl.ext ⟨by omega,Z⟩ e2) G) t;have c3:Cl r s n1 [vb] 252:=Cl.ext (Cl.ext ⟨by omega,a2⟩ G) t;have c4:Cl r s k [.ns] 252:=Cl.ext ⟨by omega,a3⟩ t;have c5:Cl r s F [.ns] 252:=⟨by omega,a4⟩;have D5:=B.ext x4;have ib4:=ib.ext x4;clear Z a2 a3 a4;refine φ<|ε<|ν U (bP c2.2 rfl)<|ν U (bP c3.2 rfl)<|ah U U<|TM m (by omega) (by omega) na nb D5 ib4 <| λh5 H d=>aH U U<|δ ?_;have I:=x4.trans d;have z5:=d.1;have v:=c2.ext d;have J:=c3.ext d;have L:=c4.ext d;have M:=c5.ext d;have e:=D5.ext d;have g:=ib4.ext d;by_cases N:val Bg a<val Bg b
 ·have O:jc (val Bg a) (val Bg b) = -1:=by unfold jc;rw[ab N]
  rw[O];refine ax U (by simp) ?_;have l2:bc h5 true 1 (.p n 0)=some (.a [va]):=bP v.2 rfl;refine eT<|tc U<|aO U l2 (kK (e.below (ξ _))) (kL (κ.dL e))<|fK U U L.2 (bS rfl rfl rfl) <| λw a6 b6=>fK U U ((Cl.Ξ (n:=H) M b6 (by omega)).2) (bS rfl rfl (eN e.one)) <| λi P b7=>df (⟨⟨al (by simp[Nat.testBit]),cT l2 (bP ((b6 n (by omega)).trans v.2) U),trivial⟩,trivial⟩) ?_;have pV:bA k h5 w:=b6;have j:bA F w i:=b7;refine aj ⟨_,Fi rfl (bP (l':=[.ns]) ((j k (by omega)).trans a6) U) U (bP P rfl),?_⟩;have e7:Ext h n i H:=(I.Ξ pV (by omega)).Ξ j (by omega);exact D .ns [] va a i H e7 bB.nil (B.ext e7) na (zm N).symm (Or.inl U)
 ·have O:¬ jc (val Bg a) (val Bg b)<0:=by rw[aiu];exact N
  refine az U (by simpa using O)<|ay ?_;refine φ<|ε<|χ U<|ν U (J.ld U _)<|aJ U g<|dD U U<|δ ?_;have R:0<b.length:=List.length_pos_iff.2 Y;by_cases h1:b.length=1
  ·refine ax U (by simp[h1]) ?_;have q:=nb.1.get R;have pg:val Bg b=b[0]:=by
    match b,h1 with
    | [y],_=>simp[val]
   have akB:0<b[0]:=by
    have:=nb.2 Y
    match b,h1 with
    | [y],_=>simp only[List.getLast_singleton]at this;exact Bq this
   refine eT<|aO U (bP v.2 rfl) (kK (e.below (ξ _))) (kL (κ.dL e))<|cI U<|aO U (J.ld U _) (g.below (ξ _)) (κ.dL g)<|js U U g R<|aO U (g.get R _) U (gJ _ _)<|ch U U<|TR m (by omega) na.1 akB q e <| λv1 q1 c r2 w S T x nq1 vq1 z W vr2 s1 l=>zW U U<|zW U U<|fK U U ((L.ext T).2) (bS rfl rfl (eN x.one)) <| λi P b7=>fK U U ((Cl.Ξ (n:=S) (M.ext T) b7 (by omega)).2) (bS rfl rfl (eN z.one)) <| λX a8 b8=>df (⟨⟨al (by simp[Nat.testBit]),al (by simp[Nat.testBit]),al (by simp[Nat.testBit]),trivial⟩,⟨al (by simp[Nat.testBit]),al (by simp[Nat.testBit]),al (by simp[Nat.testBit]),trivial⟩,⟨al (by simp[Nat.testBit]),al (by simp[Nat.testBit]),al (by simp[Nat.testBit]),trivial⟩,trivial⟩) ?_;have j:bA k w i:=b7;have A:bA F i X:=b8;refine aj ⟨_,Fi rfl (bP (l':=[v1]) ((A k (by omega)).trans P) U) U (bP a8 rfl),?_⟩;have e8:Ext h n X S:=((I.trans T).Ξ j (by omega)).Ξ A (by omega);exact D v1 q1 c r2 X S e8 ((x.Ξ j (s1.imp id λh=>by omega)).Ξ A (s1.imp id λh=>by omega)) ((z.Ξ j (l.imp id λh=>by omega)).Ξ A (l.imp id λh=>by omega)) W (by rw[vr2,pg]) (Or.inr (l.imp id λh=>by omega))
  ·refine az U (by simp<;>omega)<|ay ?_;refine au (akp m (hs:=h) (ns:=n) I (by omega) (by omega) v e nY na J g lU nb (by omega) L M ?_) (Θ.rf U);intro o q c r2 h' n' E x z W K7 l;exact D o q c r2 h' n' E x z W K7 (Or.inr l)
end
section
variable {C:Nat->Option aE}{h:Hf}{n:K}{Q:V->Hf->K->Prop}
def akC(y:Cd C){h0:Hf}{n0 b2 b3 b4:K}(T:n0.num<=b2.num)(W:n0.num<=b3.num)(YO:n0.num<=b4.num)(h23:b2.num≠b3.num)(h24:b2.num≠b4.num)(h34:b3.num≠b4.num){G:Nat}
 {Q1:Ex->Env->Hf->K->Prop}(I:∀va g h n E',Ext h0 n0 h n->Cl h n b2 [va] 252->Cl h n b4 [.ns] 252->bB h n .u32 va g->g.length<400->gZ Bg g->val Bg g=G->(va=.ns\/va.blk.num≠b4.num)->Θ [(k2,.p b2 0),(k4,.p b4 0)] E'->Q1 .normal E' h n):
 ∀(m:Nat) (va vb:V) (a b:List Nat) (h:Hf) (n:K),val Bg b<=m->a.length<400->b.length<400->gZ Bg a->gZ Bg b->Nat.gcd (val Bg a) (val Bg b)=G->bB h n .u32 va a->bB h n .u32 vb b->(va=.ns\/va.blk.num≠b2.num/\va.blk.num≠b3.num/\va.blk.num≠b4.num)->(vb=.ns\/vb.blk.num≠b2.num/\vb.blk.num≠b3.num/\vb.blk.num≠b4.num)->Ext h0 n0 h n->Cl h n b2 [va] 252->Cl h n b3 [vb] 252->Cl h n b4 [.ns] 252->WC C aeG [(k2,.p b2 0),(k3,.p b3 0),(k4,.p b4 0)] h n (blk 0 Q1):=by
 intro m
 induction m with
 | zero=>
  intro va vb a b h n hm k z l hb o f ib s t he c2 c3 c4;have i:b=[]:=(val_zero (B:=Bg) hb.2 (by decide)).1 (by omega);subst i;refine aF ?_;refine φ<|φ<|aP<|ν U (bP c3.2 rfl)<|ah U U<|CO y ib (by omega) <| λh1 n1 d=>cz U<|δ ?_;exact az U U<|bG (I va a h1 n1 _ (he.trans d) (c2.ext d) (c4.ext d) (f.ext d) k l (by simpa[val]using o) (s.imp id λh=>h.2.2) (Θ.rf U))
 | succ m ih=>
  intro va vb a b X Y hm k z l hb o f ib s t he c2 c3 c4;refine aF ?_;refine φ<|φ<|aP<|ν U (bP c3.2 rfl)<|ah U U<|CO y ib (by omega) <| λh n d=>cz U<|δ ?_;replace he:=he.trans d;replace c2:=c2.ext d;replace c3:=c3.ext d;replace c4:=c4.ext d;replace f:=f.ext d;replace ib:=ib.ext d;clear d X Y;by_cases i:b=[]
  ·subst i;exact az U U<|bG (I va a h n _ he c2 c4 f k l (by simpa[val]using o) (s.imp id λh=>h.2.2) (Θ.rf U))
  ·have gg:0<b.length:=by cases b with | nil=>exact absurd rfl i | cons=>simp
   refine ax U (by simp<;>omega)<|ay ?_;have Z:0<val Bg b:=Bq λe=>i ((val_zero (B:=Bg) hb.2 (by decide)).1 e);refine aA<|ε<|ν U (bP c2.2 rfl)<|ν U (bP c3.2 rfl)<|ah U U<|akz y k z l hb i f ib <| λvq q vr r h1 n1 d iq ir J L ur=>γ U<|bU U U<|bU U U<|bN <| λh2 M iw a2 e2=>bN <| λh3 A kh a3 N=>aR U U ((Cl.ext (n:=M) ⟨by omega,a2⟩ N).2) (bS rfl rfl (eN iq.one)) <| λh4 a4 O=>aR U U ((Cl.Ξ (n:=A) ⟨by omega,a3⟩ O (by omega)).2) (bS rfl rfl (eN ir.one)) <| λu P t5=>δ ?_;have g2:=c2.1;have g3:=c3.1;have g4:=c4.1;have j:Ext h1 n1 u A:=((e2.trans N).Ξ O (ξ _)).Ξ t5 (by omega);have R:=(c2.ext d).ext j;have D:=(c3.ext d).ext j;have d4:=(c4.ext d).ext j;have l3:bc u true 1 (.p b3 0)=some (.a [vb]):=bP D.2 rfl;have l6:bc u true 1 (.p M 0)=some (.a [vr]):=bP P rfl;have E:=(ib.ext d).ext j;have F:=ir.ext j;have g1:=d.1;refine rB<|aO U l3 (kK (κ.below E (ξ _))) (kL (κ.dL E))<|aO U l6 (kK (κ.below F (ξ _))) (kL (κ.dL F))<|fK U U R.2 (bS rfl rfl (eN ib.one)) <| λS a6 b6=>fK U U ((D.Ξ b6 (by omega)).2) (bS rfl rfl (eN ir.one)) <| λv a7 b7=>df (⟨⟨al (by simp[Nat.testBit]),cT l6 (bP ((b6 _ (by omega)).trans P) U),trivial⟩,⟨al (by simp[Nat.testBit]),al (by simp[Nat.testBit]),trivial⟩,trivial⟩) ?_;have KF:v b2=some (.c [vb] 252 0):=(b7 _ (by omega)).trans a6;have w:bA b2 u S:=b6;have x:bA b3 S v:=b7;have Y1:v b3=some (.c [vr] 252 0):=a7;have EN:=oU (val Bg a) Z;have lC:r.length<400:=by have:=uC (B:=Bg) J.2 hb.1 (by decide) (by rw[L];exact fC EN);omega
   have H:vr=.ns\/vr.blk.num≠b2.num/\vr.blk.num≠b3.num/\vr.blk.num≠b4.num:=by
    rcases ur with h | h | h
    ·rw[h];exact s
    ·exact Or.inl h
    ·exact Or.inr ⟨by omega,by omega,by omega⟩
   refine au (ih vb vr b r v A (by omega) z lC hb J ?_ ((E.Ξ w (t.imp id λh=>h.1)).Ξ x (t.imp id λh=>h.2.1)) ((F.Ξ w (H.imp id λh=>h.1)).Ξ x (H.imp id λh=>h.2.1)) t H (((he.trans (d.trans j)).Ξ w T).Ξ x W) ⟨R.1,KF⟩ ⟨D.1,Y1⟩ ((d4.Ξ w (by omega)).Ξ x (by omega))) (Θ.rf U);rw[L,←o,Nat.gcd_comm (val Bg a),Nat.gcd_rec (val Bg b) (val Bg a),Nat.gcd_comm]
def akD(l:Cd C){va vb:V}{a b:List Nat}(q:a.length<400)(r:b.length<400)(s:gZ Bg a)(hb:gZ Bg b)(i:bB h n .u32 va a)(ib:bB h n .u32 vb b)
 (t:∀c g h' n',Ext h n h' n'->bB h' n' .u32 c g->g.length<400->gZ Bg g->val Bg g=Nat.gcd (val Bg a) (val Bg b)->Q (.a [c]) h' n'):μ C (.f 186 [] []) [.a [va],.a [vb]] h n Q:=by
 refine μ.go l.f186 U ?_;refine ε<|eL U U (eN i.one) <| λh1 n1 J u v=>eL U U (eN ib.one) <| λh2 m L w o=>bN <| λd e M x j=>δ ?_;have k:=(v.trans o).trans j;have c2:Cl d e n [va] 252:=(Cl.ext ⟨by omega,u⟩ o).ext j;have c3:Cl d e n1 [vb] 252:=Cl.ext ⟨by omega,w⟩ j;have c4:Cl d e m [.ns] 252:=⟨by omega,x⟩;refine φ<|aA<|au (akC l (h0:=h) (n0:=n) (b2:=n) (b3:=n1) (b4:=m) (ξ _) (by omega) (by omega) (by omega) (by omega) (by omega) ?_ _ va vb a b d e (ξ _) q r s hb rfl (i.ext k) (ib.ext k) ((i.xF).imp id λh=>⟨by omega,by omega,by omega⟩) ((ib.xF).imp id λh=>⟨by omega,by omega,by omega⟩) k c2 c3 c4) (Θ.rf U);intro c g N y E6 z A B p l6 D E F G;refine dO G ?_;refine ε<|ν U (bP A.2 rfl)<|aR U U B.2 (bS rfl rfl (eN p.one)) <| λH I b7=>δ ?_;refine aj ⟨_,jI rfl (bP I rfl),?_⟩;exact t c g H y (z.Ξ b7 (by omega)) (p.Ξ b7 F) l6 D E
end
section
variable {C:Nat->Option aE}{h:Hf}{n:K}{Q:V->Hf->K->Prop}
def chunk(s:S)(i:Nat):S:=(s.take (s.length - 9*i)).drop (s.length - 9*i - 9)
def C6(s:S):List (List V):=(List.range ((s.length+8) / 9)).map λi=>[st (chunk s i)]
def F6(s:S):(C6 s).length=(s.length+8) / 9:=by simp[C6]
def Lf(s:S){i:Nat}(hi:i<(C6 s).length):(C6 s)[i]=[st (chunk s i)]:=by simp[C6]
def akE(k:Cd C){s:S}(hlen:s.length<1000000){b:K}:Q4 C (.f 286 [] [.p b 0]) b (some (.c [st s] 9 0)) (C6 s):=by
 intro y I D h n x hB d a hS h0;refine μ.go k.f286 U ?_;refine aA ?_;have key:∀(m i:Nat) (h:Hf) (n:K),(s.length+8) / 9 - i=m->i<=(s.length+8) / 9->b.num<n.num->h b=some (.c [st (s.take (s.length - 9*i))] 9 0)->I i h n->WC C ae4 [(k0,y),(k1,.p b 0)] h n (blk 0 (fq [] (λv h' n'=>I (C6 s).length h' n'\/D h' n'))):=by
  intro m
  induction m with
  | zero=>
   intro i h n hm hi d a hI;have hl:(s.take (s.length - 9*i)).length=0:=by simp<;>omega
   refine aF ?_;refine φ<|ε<|ν U (cH a rfl _)<|du U<|dH U U<|δ ?_;refine az U (by rw[hl];rfl)<|bG ⟨_,rfl,Or.inl ?_⟩;rw[F6];have:i=(s.length+8) / 9:=by omega
   rw[←this];exact hI
  | succ m ih=>
   intro i h n hm hi d a hI;have hl:(s.take (s.length - 9*i)).length=s.length - 9*i:=by simp<;>omega
   have z:0<s.length - 9*i:=by omega
   refine aF ?_;refine φ<|ε<|ν U (cH a rfl _)<|du U<|dH U U<|δ ?_;rw[hl];refine ax U (by simp<;>omega)<|ay ?_;refine aA<|ε<|ν U (cH a rfl _)<|du U<|pn U U ⟨by omega,by omega⟩<|adv U U<|γ U<|δ ?_;rw[hl];have l:max (0:Int) ((s.length - 9*i:Nat) - 9:Int)=((s.length - 9*i - 9:Nat):Int):=by omega
   rw[l];have o:i<(C6 s).length:=by rw[F6];omega
   have q:((s.take (s.length - 9*i)).drop (s.length - 9*i - 9)).take ((s.take (s.length - 9*i)).length - (s.length - 9*i - 9))=chunk s i:=by unfold chunk;exact ot (by simp)
   have:=hS i o h n d hI;rw[Lf,←q]at this;refine φ<|ε<|γ U<|ν U (cH a rfl _)<|γ U<|Ci U U U (by omega) (ξ _)<|ah U U<|μ.mono this ?_;rintro v A r ⟨B,t,⟨rfl,e⟩ | ⟨rfl,e⟩⟩
   ·refine cz U<|δ<|az U U<|ay ?_;have g:=t.trans a;refine aP<|ν U (cH g rfl _)<|γ U<|Ci U U U ((oy _)) ((show s.length - 9*i - 9<=(s.take (s.length - 9*i)).length by omega))<|aR U U g U <| λu j b4=>δ ?_;have w:((s.take (s.length - 9*i)).drop 0).take (s.length - 9*i - 9 - 0)=s.take (s.length - 9*(i+1)):=by
     rw[ig,List.take_take];congr 1;omega
    rw[w]at j;exact au (ih (i+1) u r (by omega) (by omega) (by omega) j (hB _ _ _ _ e b4)) (Θ.rf U)
   ·exact cz U<|δ<|ax U U<|aj ⟨_,rfl,Or.inr e⟩
 refine au (key _ 0 h n rfl (by omega) d ?_ h0) (Θ.rf U);rw[a,ou,mY,fO]
def akF(a:Cd C){s:S}(hlen:s.length<1000000)(b:∀h' n',Ext h n h' n'->n'.num=n.num+1->h' n=some (.c [st s] 9 0)->Q (.f 286 [] [.p n 0]) h' n'):μ C (.f 248 [] []) [st s] h n Q:=by refine μ.go a.f248 U ?_;refine ε<|eL U U U <| λh1 n1 d e g=>γ U<|δ ?_;refine ε<|rD U U<|γ U<|δ (aj ⟨_,rfl,b h1 n1 g d e⟩)
def akG{k:Nat}(h:k<=9):10 ^ k<=1000000000:=by have:10 ^ k<=10 ^ 9:=Br (by omega) h;simpa using this
section
variable {x2 x4:V}
def akH{c:S}(t:c.length<=9)(a:∀x∈c,lJ x=true){b b5:K}{h0:Hf}{n0:K}(f:n0.num<=b.num){Q1:Ex->Env->Hf->K->Prop}
 (g:∀E' h' n',Ext h0 n0 h' n'->Θ [(k2,x2),(k4,x4),(k5,.p b5 0),(k7,.i .u32 (dec c:Nat))] E'->Q1 .normal E' h' n'):
 ∀(m i:Nat) (h:Hf) (n:K),c.length - i=m->i<=c.length->h b=some (.it c.length (aT c) i)->Ext h0 n0 h n->WC C aeF [(k2,x2),(k4,x4),(k5,.p b5 0),(k7,.i .u32 (dec (c.take i):Nat)),(sy,.p b 0)] h n (blk 2 Q1):=by
 intro m
 induction m with
 | zero=>
  intro i h n hm hi hb e;have:i=c.length:=by omega
  subst this;refine aF ?_;refine ε<|zX U hb (by omega)<|bU U U<|δ ?_;refine φ<|az U U<|bG (g _ _ _ e ⟨rfl,rfl,rfl,?_,trivial⟩);rw[fO];rfl
 | succ m ih=>
  intro i h n hm hi hb e;have d:i<c.length:=by omega
  have u:=Ky (a c[i] (bL _));have j:dec (c.take (i+1))=10*dec (c.take i)+(c[i].toNat - 48):=by rw[gm d];exact ahS 0 _ _
  have v:dec (c.take i)<10 ^ i:=by
   have:=dec_lt (s:=c.take i) (λx k=>a x (tN k));have pU:(c.take i).length=i:=by simp;omega
   rw[pU]at this;exact this
  have hp:10 ^ i<=10 ^ 8:=Br (by omega) (by omega);refine aF ?_;refine ε<|Fq U hb (by omega) <| λr w h1 R l b1=>bU U U<|δ ?_;refine φ<|ax U U<|ay<|aA ?_;obtain⟨o,q⟩:r=(c[i]'d).toNat/\w=1:=R.lo (by omega);subst o;subst q;refine ε<|bU U U<|γ U<|δ ?_;generalize y:dec (c.take i)=D at*;refine aP<|γ U<|xZ U U (show(10:Int)*(D:Nat)=((10*D:Nat):Int) by omega) ⟨by omega,by omega⟩<|γ U<|py U U (show((c[i].toNat:Nat):Int) - 48=((c[i].toNat - 48:Nat):Int) by omega) ⟨by omega,by omega⟩<|nF U ⟨by omega,by omega⟩<|nH U U (show((10*D:Nat):Int)+((c[i].toNat - 48:Nat):Int)=((10*D+(c[i].toNat - 48):Nat):Int) by omega) ⟨by omega,by omega⟩<|γ U<|δ ?_;rw[←j];exact au (ih (i+1) h1 n (by omega) (by omega) l (e.Ξ b1 f)) (Θ.rf U)
end
def Ug{E:Env}{k k':K}{v:V}{x:Bool}(h1:lk E k=some (.a [v]))(c:v.one=true)(d:lk E k'=some (.b x)):iQ E [.ns,.b false] [(0,1,.t k),(1,1,.t k')]=some [v,.b x]:=by simp only[iQ,ge,h1,d,V.cells,eh,mW,aB,c,cJ,over];rfl
def akJ(o:Cd C){v:V}{l:List Nat}{c:Bool}(hv:bB h n .u32 v l)(hlen:l.length<1000000)(q:∀h' n',Ext h n h' n'->Q (.a [v,.b (c&&!decide (l.length=0))]) h' n'):μ C (.f 249 [] []) [.a [v],.b c] h n Q:=by
 refine μ.go o.f249 U ?_;refine ε<|eL U U (eN hv.one) <| λh1 n1 x t u=>bN <| λh2 d y r s=>δ ?_;have x2:=u.trans s;have c2:Cl h2 d n [v] 252:=Cl.ext ⟨by omega,t⟩ s;have l2:∀{h' n'},Ext h2 d h' n'->bc h' true 1 (.p n 0)=some (.a [v]):=λe=>bP (c2.ext e).2 rfl;have g:=hv.ext x2;have be:=kK (g.below (ξ _));have i:=kL (κ.dL g);cases c with
 | true=>
  refine eT<|aO U (l2 (Ext.refl _ _)) be i<|aI U<|aI U<|cG U (rfl)<|aO U (l2 (Ext.refl _ _)) be i<|cG U (rfl)<|ch U U<|CO o g hlen <| λz w j=>cG U (rfl)<|xX U<|Ch U (rfl) U<|tc (Ug rfl hv.one U)<|fK U U ((j.2 n1 (by omega)).trans r) (bS rfl rfl (Jf hv.one U)) <| λk m b4=>df (⟨⟨al (by simp[Nat.testBit]),al (by simp[Nat.testBit]),trivial⟩,⟨al (by simp[Nat.testBit]),cT (l2 (Ext.refl _ _)) (l2 j),trivial⟩,trivial⟩) ?_;refine aj ⟨_,jI rfl (bP m rfl),?_⟩;exact q k w ((x2.trans j).Ξ b4 (by omega))
 | false=>
  refine eT<|aO U (l2 (Ext.refl _ _)) be i<|aI U<|aI U<|eK U (rfl)<|eK U (rfl)<|eK U (rfl)<|xW U (rfl) U<|tc (Ug rfl hv.one U)<|fK U U r (bS rfl rfl (Jf hv.one U)) <| λk m b4=>df (⟨⟨al (by simp[Nat.testBit]),trivial⟩,trivial⟩) ?_;refine aj ⟨_,jI rfl (bP m rfl),?_⟩;exact q k d (x2.Ξ b4 (by omega))
end
section
variable {C:Nat->Option aE}{h:Hf}{n:K}{Q:V->Hf->K->Prop}
def akK{s:S}{j:Nat}(hj:9*j<=s.length):chunk s j++s.drop (s.length - 9*j)=s.drop (s.length - 9*(j+1)):=by
 unfold chunk;have e:s.length - 9*(j+1)=s.length - 9*j - 9:=by omega
 rw[e];have h2:s.length - 9*j - 9<=(s.take (s.length - 9*j)).length:=by simp
 rw[←List.drop_append_of_le_length h2,Et]
def akL(s:S)(j:Nat):(chunk s j).length<=9:=by unfold chunk;simp;omega
def akM{s:S}{j:Nat}:∀c∈chunk s j,c∈s:=λc a=>tN (zg a)
def Uh(r:Cd C){s:S}(hlen:s.length<1000)(hd:∀c∈body s,lJ c=true)
 (hQ:∀v l h' n',Ext h n h' n'->bB h' n' .u32 v l->gZ Bg l->l.length<=s.length->val Bg l=dec (body s)->(v=.ns\/n.num<=v.blk.num)->Q (.a [v,.b (isNeg s&&!decide (l.length=0))]) h' n'):μ C (.f 184 [] []) [st s] h n Q:=by
 have gg:=Kl s;refine μ.go r.f184 U ?_;refine ε<|bN <| λh1 n1 dd a1 e1=>δ ?_;refine ε<|γ U<|ah U U<|TF r<|γ U<|bU U U<|bU U U<|γ U<|γ U<|δ ?_;have c2:Cl h1 n1 n [.ns,.b false] 254:=⟨by omega,a1⟩;generalize wO:body s=t at*;generalize isNeg s=ng at*;refine ε<|bN <| λh2 n2 iw a2 H=>δ ?_;have c5:Cl h2 n2 n1 [.ns] 250:=⟨by omega,a2⟩;refine φ<|ε<|γ U<|ah U U<|akF r (by omega) <| λh3 u T kh a3=>δ ?_;have x3:Ext h1 n1 h3 u:=H.trans T;let I:Nat->Hf->K->Prop:=λj h' n'=>∃vs l,Cl h' n' n1 [vs] 250/\Gr h1 n1 h' n' 309 1 vs l.length (nC .u32 l)/\l.length=j/\Sm Bg l/\val Bg l=dec (t.drop (t.length - 9*j))/\(vs=.ns\/u.num<vs.blk.num);refine aA<|adA U (akE r (by omega)) (by omega) a3 I (λ_ _ _=>False) ?_ ?_ ?_ ?_ ?_ ?_ ?_ ?_
 ·rintro j h1 m1 h' n' ⟨vs,l,g1,e,k,m,g,d⟩ ex;exact⟨vs,l,g1.ext ex,e.on ex,k,m,g,d⟩
 ·rintro j h1 m1 h' ⟨vs,l,g1,e,k,m,g,d⟩ o;exact⟨vs,l,g1.Ξ o (by omega),e.Ξ o (by omega) (d.imp id λh=>by omega),k,m,g,d⟩
 ·rintro j h1 m1 h' ⟨vs,l,g1,e,k,m,g,d⟩ o;exact⟨vs,l,g1.Ξ o (by omega),e.Ξ o (by omega) (d.imp id λh=>by omega),k,m,g,d⟩
 ·intro j hj;rw[Lf];rfl
 ·intro h' o;have KM:u.succ.num=u.num+1:=K.eI u;refine⟨.ns,[],((c5.ext T).Ξ o (by omega)).up (by omega),Gr.ns ((x3.Ξ o (by omega)).succ),rfl,Sm.nil,?_,Or.inl U⟩;rw[ou,mY,oS];rfl
 ·rintro j hj h4 J E1 mQ ⟨vs,l,g1,e,k,m,g,d⟩ L;have bR:j<(t.length+8) / 9:=by rw[F6]at hj;exact hj
  rw[Lf]at L;simp only[jF,kV]at L;subst L;have W:=akL t j;have X:∀x∈chunk t j,lJ x=true:=λx q=>hd x (akM x q);have hD1:dec (chunk t j)<Bg:=by have h1:=dec_lt X;have h2:=akG W;exact eE h1 h2
  have hD2:dec (t.drop (t.length - 9*(j+1)))=dec (chunk t j)*Bg ^ j+dec (t.drop (t.length - 9*j)):=by rw[←akK (by omega),Km];congr 2;rw[sM,show t.length - (t.length - 9*j)=9*j by omega,Nat.pow_mul]
  refine aP<|γ U<|δ ⟨rfl,ξ _,rfl,rfl,λM b5=>?_⟩;have g15:=g1.Ξ b5 (by omega);have g25:Gr h1 n1 M J 309 1 vs l.length (nC .u32 l):=e.Ξ b5 (by omega) (d.imp id λh=>by omega);generalize chunk t j=ck at*;refine aA<|ε<|γ U<|δ ?_;refine φ<|ε<|γ U<|Fp U <| λY B jh a6 y=>δ ?_;refine aA<|au (akH (x2:=.p n 0) (x4:=.b ng) (b5:=n1) W X (b:=J) (h0:=M) (n0:=J) (ξ _) ?_ _ 0 Y B rfl (by omega) a6 y) (Θ.rf U);intro E7 N n7 z hE;refine dO hE ?_;have O:=g15.ext z;have E:=g25.on z;have z7:=z.1;have z1:=O.1;generalize dec ck=D at*;have at7:=E.lt;refine aP<|ν U (O.ld U _)<|γ U<|jJ U <| λh8 n8 yW a8 w=>uq U ((E.on w).own) U (κ.whole (len:=1) (by omega) a8 rfl) (by omega) (by omega) (by omega) (by omega) U ((E.on w).lt) <| λZ h9 n9 P YV Y5 F=>aR U U ((F _ (by omega) (d.imp id λh=>by omega)).trans (O.ext w).2) (mB P.cells P.one U) <| λjK sr fA=>δ ?_;have g29:=(E.on w).app P YV Y5 F;have R:bA n1 h9 jK:=fA;have H:nC .u32 l++[V.i .u32 (D:Nat)]=nC .u32 (l++[D]):=by rw[adC];rfl
  rw[H]at g29;have k9:Z.blk.num=n8.num:=by rw[YV]
  have fG:(l++[D]).length=l.length+1:=by simp
  refine⟨by omega,?_,?_,Z,l++[D],⟨by omega,sr⟩,?_,by rw[fG,k],?_,?_,Or.inr (by omega)⟩
  ·rw[R _ (by omega),F _ (by omega) (d.imp id λh=>by omega),w.2 _ (by omega),z.2 _ (by omega)]
  ·rw[R _ (by omega),F _ (by omega) (d.imp id λh=>by omega),w.2 _ (by omega),z.2 _ (by omega)]
  ·rw[fG];exact g29.Ξ R (ξ _) (Or.inr (by omega))
  ·intro x q;rcases eG.1 q with q | q
   ·exact m x q
   ·simp at q;rw[q];exact hD1
  ·rw[FM,hD2,g,k];simp only[val,ou,j6];rw[eR D,oW]
 ·rintro h' n' pP ⟨vs,l,g1,e,k,m,g,d⟩;rw[F6]at k g;rw[show t.length - 9*((t.length+8) / 9)=0 by omega,ig]at g;have il:bB h' n' .u32 vs l:=e.sl;have d2:=c2.ext e.ext;refine ε<|ν U (g1.ld U _)<|ah U U<|wz r (ξ _) il (by omega) <| λv5 M n5 G A NW pC=>px (rP rfl A.cells A.one)<|γ U<|ah U U<|akJ r (A.up G.1) (by have:=CE l;omega) <| λY B y=>aR U U (((d2.ext G).ext y).2) (bS rfl rfl (Jf A.one U)) <| λN a7 b7=>δ ?_;refine aj ⟨_,jI rfl (bP a7 rfl),?_⟩;have gI:=CE l;have x7:Ext h n N B:=(((e1.trans e.ext).trans G).trans y).Ξ b7 (ξ _);have K8:v5=.ns\/u.num<v5.blk.num:=d.imp pC λh=>by rw[NW];exact h
  exact hQ v5 (eM l) N B x7 (((A.up G.1).ext y).Ξ b7 (K8.imp id λh=>by omega)) (Ai m) (by omega) (by rw[yc,g]) (K8.imp id λh=>by omega)
 ·rintro ex h' n' nG pP hf;exact hf.elim
def Ui(x:Bool):(V.b x).one=true:=rfl
def akO{E:Env}{k k':K}{v w:V}{x y:Bool}(h1:lk E k=some (.a [v,.b x]))(c:v.one=true)(d:lk E k'=some (.a [w,.b y]))(e:w.one=true):iQ E [.ns,.b false,.ns,.b false] [(0,2,.t k),(2,2,.t k')]=some [v,.b x,w,.b y]:=by simp only[iQ,ge,h1,d,V.cells,eh,mW,aB,c,e,cJ,over,Ui];rfl
def akP{v w:V}{x y:Bool}(h1:v.one=true)(h2:w.one=true):aB [v,.b x,w,.b y]=true:=by simp only[aB,h1,h2,Ui];rfl
def akQ(c:Cd C){s:S}(hlen:s.length<1000000)(d:∀h' n',Ext h n h' n'->Q (.i .i64 (rK s)) h' n'):μ C (.f 103 [] []) [st s] h n Q:=by
 refine μ.go c.f103 U ?_;refine ε<|γ U<|δ ?_;cases k:cutAt s with
 | none=>
  have hs:uD s=none:=by unfold uD;rw[k]
  have hv:pH s=.u [st s,st [],.b false]:=by unfold pH;rw[k]
  have key:∀{Q:V->Hf->K->Prop},Q (.u [st s,st [],.b false]) h n->μ C (.f 126 [] []) [st s,st [47]] h n Q:=λd=>TK c hlen (by rw[hv];exact d);refine ε<|γ U<|ah U U<|key<|γ U<|bU U U<|bU U U<|bU U U<|γ U<|γ U<|γ U<|δ ?_;refine φ<|ε<|γ U<|cz U<|γ U<|θ U (rfl)<|θ U (rfl)<|bh U (rfl) U<|δ ?_;refine ax U U ?_;refine ε<|γ U<|δ (aj ⟨_,rfl,by have:=d h n (Ext.refl h n);rw[rK,hs]at this;exact this⟩)
 | some W=>
  obtain⟨p,q⟩:=W;have hv:pH s=.u [st p,st q,.b true]:=by unfold pH;rw[k]
  have X:=ahU k;have key:∀{Q:V->Hf->K->Prop},Q (.u [st p,st q,.b true]) h n->μ C (.f 126 [] []) [st s,st [47]] h n Q:=λd=>TK c hlen (by rw[hv];exact d);refine ε<|γ U<|ah U U<|key<|γ U<|bU U U<|bU U U<|bU U U<|γ U<|γ U<|γ U<|δ ?_;refine φ<|φ<|aP<|γ U<|cz U<|γ U<|ζ U U<|γ U<|ζ U U<|ah U U<|ajF c<|aW U U U<|δ ?_;by_cases r:oG q=true
  ·have hs:uD s=none:=by unfold uD;rw[k];simp only[r,if_true]
   refine ax U r ?_;refine ε<|γ U<|δ (aj ⟨_,rfl,by have:=d h n (Ext.refl h n);rw[rK,hs]at this;exact this⟩)
  ·have hs:uD s=some (p,q):=by unfold uD;rw[k];simp only[r,if_false];rfl
   simp only[rK,hs]at d;refine az U (by simpa using r)<|ay ?_;refine φ<|ε<|γ U<|ah U U<|CN c (by omega) <| λh1 n1 Y=>γ U<|ah U U<|CN c (by omega) <| λh2 n2 Z=>jJ U <| λH I kh a3 e3=>ah U U<|A3 c.f183 (l:=[jt p,jt q]) (κ.whole (len:=2) (by omega) a3 rfl) (by simp)<|γ U<|δ ?_;rw[FT];have v:=(Y.trans Z).trans e3;refine ε<|γ U<|fJ U U<|δ ?_;by_cases hp:jt p=0
   ·by_cases o:jt q=0
    ·refine az U (by simp[hp,o])<|ay ?_;simp only[hp,o,ne_eq,not_true_eq_false,if_false]at d;obtain⟨fp,lp⟩:=FP hp;obtain⟨J,lq⟩:=FP o;have X:=Tj hp;have Od:=Tj o;obtain⟨dp,_⟩:=FO fp;obtain⟨dq,_⟩:=FO J;have hz:=ahV J;have w:∀(b:Bool) h' n',Ext H I h' n'->b=decide (isNeg q=true\/dec (body q)=0\/Nat.gcd (dec (body p)) (dec (body q))≠1)->Q (.i .i64 (if b then 1 else 0)) h' n':=by
      intro b h' n' e hb;have:=d h' n' (v.trans e);rw[hb];by_cases k:(isNeg q=true\/dec (body q)=0\/Nat.gcd (dec (body p)) (dec (body q))≠1)
      ·rw[ab k]at this;simpa[k]using this
      ·rw[Γ k]at this;simpa[k]using this
     refine ε<|γ U<|ah U U<|Uh c (by omega) dp <| λv4 l4 h4 n4 L x r4 m4 t4 s4=>γ U<|ah U U<|Uh c (by omega) dq <| λv5 l5 h5 M y z N m5 O s5=>px (akO rfl x.one U z.one)<|bN <| λh6 A jh a6 P=>aR U U a6 (bS rfl rfl (akP x.one z.one)) <| λD a7 b7=>δ ?_;have E:Ext H I D A:=((L.trans y).trans P).Ξ b7 (by have:=L.1;have:=y.1;omega);have R:Ext h5 M D A:=P.Ξ b7 (ξ _);have c7:Cl D A M [v4,.b (isNeg p&&!decide (l4.length=0)),v5,.b (isNeg q&&!decide (l5.length=0))] 257:=⟨by omega,a7⟩;have i47:=(x.ext y).ext R;have F:=z.ext R;have T:l5.length=0↔dec (body q)=0:=by rw[←O,val_zero (B:=Bg) N.2 (by decide)];exact kW
     have ll4:l4.length<400:=by omega
     have ll5:l5.length<400:=by omega
     by_cases h0:dec (body q)=0
     ·have a:=T.2 h0;have j:isNeg q=false:=by rw[hz.1 h0];rfl
      refine ε<|χ U<|χ U<|ν U (cH c7.2 rfl _)<|γ U<|ζ U (by simp[a])<|χ U<|ζ U (by simp[a])<|χ U<|ζ U (by simp[a])<|ν U (bP c7.2 rfl)<|ζ U (by simp[a])<|ah U U<|CO c F (by omega) <| λh8 n8 m=>aW U (by simp[a]) U<|γ U<|θ U (by simp[a])<|θ U (by simp[a])<|θ U (by simp[a])<|θ U (by simp[a])<|θ U (by simp[a])<|θ U (by simp[a])<|θ U (by simp[a])<|θ U (by simp[a])<|θ U (by simp[a])<|bh U (by simp[a]) U<|ah U U<|nI c.f181<|γ U<|δ ?_;refine aj ⟨_,rfl,w _ _ _ (E.trans m) ?_⟩;simp[h0]
     ·have a:¬ l5.length=0:=λe=>h0 (T.1 e);cases j:isNeg q with
      | true=>
       refine ε<|χ U<|χ U<|ν U (cH c7.2 rfl _)<|γ U<|θ U (by simp[a,j])<|θ U (by simp[a,j])<|θ U (by simp[a,j])<|θ U (by simp[a,j])<|bh U (by simp[a,j]) U<|γ U<|θ U U<|θ U U<|θ U U<|θ U U<|θ U U<|θ U U<|θ U U<|θ U U<|θ U U<|bh U U U<|ah U U<|nI c.f181<|γ U<|δ ?_;refine aj ⟨_,rfl,w _ _ _ E ?_⟩;simp[j]
      | false=>
       refine ε<|χ U<|χ U<|ν U (cH c7.2 rfl _)<|γ U<|ζ U (by simp[a,j])<|χ U<|ζ U (by simp[a,j])<|χ U<|ζ U (by simp[a,j])<|ν U (bP c7.2 rfl)<|ζ U (by simp[a,j])<|ah U U<|CO c F (by omega) <| λh8 n8 m=>aW U (by simp[a,j]) U<|γ U<|ζ U (by simp[a])<|χ U<|ζ U (by simp[a])<|χ U<|ζ U (by simp[a])<|ν U (bP (c7.ext m).2 rfl)<|ζ U (by simp[a])<|χ U<|ζ U (by simp[a])<|χ U<|ζ U (by simp[a])<|ν U (bP (c7.ext m).2 rfl)<|ζ U (by simp[a])<|ah U U<|akD c ll4 ll5 r4 N (i47.ext m) (F.ext m) <| λvg g h9 n9 e9 i9 l9 r9 G=>ζ U (by simp[a])<|ah U U<|ajG c i9 (by omega) <| λjK dQ hX=>ζ U (by simp[a])<|cz U<|aW U (by simp[a]) U<|ah U U<|nI c.f181<|γ U<|δ ?_;refine aj ⟨_,rfl,w _ _ _ (((E.trans m).trans e9).trans hX) ?_⟩;rw[t4,O]at G;by_cases t:g=[1]
       ·have:Nat.gcd (dec (body p)) (dec (body q))=1:=by rw[←G,t];rfl
        simp[t,this,j,h0]
       ·have:¬ Nat.gcd (dec (body p)) (dec (body q))=1:=λe=>t (val_inj (B:=Bg) r9 ⟨Sm.cons (by decide) Sm.nil,λh=>by simp⟩ (by decide) (by rw[G,e];rfl));simp[t,this]
    ·refine ax U (by simp[hp,o]) ?_;simp only[hp,o,ne_eq,not_true_eq_false,if_false,not_false_eq_true,if_true]at d ⊢;refine ε<|γ U<|γ U<|δ (aj ⟨_,rfl,d _ _ v⟩)
   ·refine ax U (by simp[hp]) ?_;simp only[hp,ne_eq,not_false_eq_true,if_true]at d ⊢;refine ε<|γ U<|γ U<|δ (aj ⟨_,rfl,d _ _ v⟩)
end
section
variable {C:Nat->Option aE}{h:Hf}{n:K}{Q:V->Hf->K->Prop}
def w41(d:Cd C){x:Nd}{vv kv:V}{i:Nat}(hv:vv.one=true)(r:kv.one=true)(hl:x.name.length<1000000)(s:∀h' n',Ext h n h' n'->Q (.i .i64 (mD x)) h' n'):μ C (.f 41 [] []) [.a (kQ x vv kv i)] h n Q:=by
 refine μ.go d.f41 U ?_;refine ε<|eL U U (uG x hv r) <| λh1 n1 z t u=>γ U<|δ ?_;have q:Cl h1 n1 n (kQ x vv kv i) 95:=⟨by omega,t⟩;have lo:bc h1 false 1 (.p n (0+0+0))=some (.i .i64 x.op):=q.ld U _;have ln:bc h1 false 1 (.p n (0+0+2))=some (st x.name):=q.ld U _;refine φ<|ε<|χ U<|χ U<|ν U lo<|δ ?_;have l:∀(b:Bool) h2 g,Ext h1 n1 h2 g->mD x=(if b then 6 else 0)->Q (.i .i64 (if b then 6 else 0)) h2 g:=λb h2 g e he=>by have:=s h2 g (u.trans e);rw[he]at this;exact this
 refine aA<|ε<|dD U U<|γ U<|δ ?_;refine lA U (λj=>?_) (λj=>?_)
 ·simp only[cC]at j;by_cases c:jt x.name=0
  ·refine ε<|χ U<|χ U<|ν U ln<|ah U U<|CN d hl <| λh2 g k=>fJ U U<|γ U<|θ U (by simp[c])<|θ U (by simp[c])<|θ U (by simp[c])<|θ U (by simp[c])<|θ U (by simp[c])<|aW U (by simp[c]) U<|ah U U<|nI d.f37<|γ U<|δ ?_;exact aj ⟨_,rfl,l _ _ _ k (by simp[mD,j,isNumeral,c])⟩
  ·have v:∀{h' n'},Ext h1 n1 h' n'->bc h' false 1 (.p n (0+0+2))=some (st x.name):=λe=>(q.ext e).ld U _;refine ε<|χ U<|χ U<|ν U ln<|ah U U<|CN d hl <| λh2 g k=>fJ U U<|γ U<|ζ U (by simp[c])<|χ U<|ζ U (by simp[c])<|χ U<|ζ U (by simp[c])<|ν U (v k)<|ζ U (by simp[c])<|ah U U<|akQ d hl <| λA B w=>ζ U (by simp[c])<|fJ U U<|bh U (by simp[c]) U<|ah U U<|nI d.f37<|γ U<|δ<|aj ⟨_,rfl,l _ _ _ (k.trans w) ?_⟩;by_cases y:rK x.name=0<;>simp[mD,j,isNumeral,c,y]
 simp only[gT]at j;refine ε<|dD U U<|γ U<|δ ?_;refine lA U (λm=>?_) (λm=>?_)
 ·simp only[cC]at m;refine ε<|χ U<|χ U<|ν U ln<|ah U U<|YF d (by omega) <| λh2 g k=>cz U<|ah U U<|nI d.f37<|γ U<|δ ?_;refine aj ⟨_,rfl,l _ _ _ k ?_⟩;cases hp:iH x.name<;>simp[mD,m,hp]
 simp only[gT]at m;refine ε<|dD U U<|γ U<|δ ?_;refine lA U (λo=>?_) (λo=>ay ?_)
 ·simp only[cC]at o;refine ε<|χ U<|χ U<|ν U ln<|iS (b:=[]) U U<|ah U U<|nI d.f37<|γ U<|δ ?_;refine aj ⟨_,rfl,l _ _ _ (Ext.refl _ _) ?_⟩;by_cases hp:x.name=[]<;>simp[mD,o,hp]
 simp only[gT]at o;refine ε<|χ U<|χ U<|ν U ln<|qy (b:=[]) U U<|ah U U<|nI d.f37<|γ U<|δ ?_;refine aj ⟨_,rfl,l _ _ _ (Ext.refl _ _) ?_⟩;by_cases hp:x.name=[]<;>simp[mD,j,m,o,hp]
section
variable {x:Nd}{vv kv:V}{b:K}{pl:Nat}
def akT(j:Cd C){h0:Hf}{n0:K}(hv:dV h0 n0 vv x.vars)(N:x.vars.length<1000)(D:∀v∈x.vars,v.1.length<10000000)(hb:Cl h0 n0 b (kQ x vv kv pl) 95):
 ∀(m i:Nat) (h:Hf) (n:K),x.vars.length - i=m->i<=x.vars.length->Ext h0 n0 h n->(∀h' n',Ext h0 n0 h' n'->Q (.i .i64 (qE x.vars m i)) h' n')->WC C aed [(k1,.p b 0),(k40,vv),(k41,iN x.vars.length),(k42,iN i)] h n (blk 0 (sq C aee (fq [.t k2] Q))):=by
 intro m
 induction m with
 | zero=>
  intro i h n hm hi e c;have:i=x.vars.length:=by omega
  subst this;refine aF ?_;refine ε<|aH U U<|δ ?_;refine φ<|az U (by simp)<|bG ?_;refine ε<|γ U<|δ (aj ⟨_,rfl,c _ _ e⟩)
 | succ m ih=>
  intro i h n hm hi e c;have o:i<x.vars.length:=by omega
  simp only[qE,aX o]at c;have E:=D _ (bL o);have u:=hv.ext e;have O:=hb.1;have P:=e.1;refine aF ?_;refine ε<|aH U U<|δ ?_;refine φ<|ax U (by simp<;>omega)<|ay ?_;refine φ<|aA<|ε<|γ U<|aV U U u o<|ν U (u.jG o)<|bN <| λh1 n1 R z A=>γ U<|aR U U z U <| λh2 B b2=>δ ?_;have w:Ext h n h2 n1:=A.Ξ b2 (ξ _);have c4:Cl h2 n1 n [st x.vars[i].1,st x.vars[i].2] 37:=⟨by omega,B⟩;have F:Cl h2 n1 b (kQ x vv kv pl) 95:=(hb.ext e).ext w;have q:=u.ext w;have g:∀{H:Hf},Ag n1 h2 H->bc H false 1 (.p n (0+0))=some (st x.vars[i].1):=λag=>(c4.ext (ag.x (ξ _))).ld U _;have lv:∀{H:Hf},Ag n1 h2 H->bc H false 1 (.p b (0+0+3))=some vv:=λag=>(F.ext (ag.x (ξ _))).ld U _;have be:=q.below (ξ _);have G:=κ.dL q;clear z B b2 A;refine eT<|cI U<|aO U (g (Ag.refl _ _)) U (iR _ _)<|ch U U<|YF j E <| λS T a=>xX U<|ch U U<|nI j.f37<|cI U<|cI U<|aO U (lv a.ag) (q.below a.1) G<|aI U<|Jb U (dV.ext q a) U U (by omega) ((show i<=_ by omega)) <| λW I l4=>cI U<|aO U (g a.ag) U (iR _ _)<|ch U U<|uI j (dV.sub I (by omega)) (by simp<;>omega) <| λX f d=>ch U U<|nI j.f37<|th U <| λr s Y J L=>ch U U<|A3 j.f36 (l:=[if (!iH x.vars[i].1) then 6 else 0,if decide (x.vars[i].1∈((x.vars.drop 0).take (i - 0)).map Prod.fst) then 7 else 0]) (κ.whole (len:=2) (by omega) J rfl) (by simp)<|aI U<|df (⟨⟨al (by simp[Nat.testBit]),al (by simp[Nat.testBit]),al (by simp[Nat.testBit]),cT (g (a.ag.hp f none (by have:=a.1;have:=d.1;omega))) (g (a.ag.hp f none (by have:=a.1;have:=d.1;omega))),cT (g ((Ag.refl _ _).hp f none (by have:=a.1;have:=d.1;omega))) (g (a.ag.hp f none (by have:=a.1;have:=d.1;omega))),trivial⟩,⟨al (by simp[Nat.testBit]),al (by simp[Nat.testBit]),al (by simp[Nat.testBit]),cT (lv (a.ag.hp f none (by have:=a.1;have:=d.1;omega))) (lv (a.ag.hp f none (by have:=a.1;have:=d.1;omega))),cT (lv ((Ag.refl _ _).hp f none (by have:=a.1;have:=d.1;omega))) (lv (a.ag.hp f none (by have:=a.1;have:=d.1;omega))),trivial⟩,⟨al (by simp[Nat.testBit]),al (by simp[Nat.testBit]),al (by simp[Nat.testBit]),al (by simp[Nat.testBit]),al (by simp[Nat.testBit]),trivial⟩,trivial⟩) ?_
  rw[FT,ig,mY];have M:Ext h2 n1 r s:=(a.trans d).trans L;have y:=(e.trans w).trans M;refine ε<|γ U<|fJ U U<|δ ?_;cases hp:iH x.vars[i].1 with
  | false=>
   rw[hp]at c;refine ax U (by simp) ?_;refine ε<|γ U<|γ U<|δ (aj ⟨_,rfl,?_⟩);have:=c r s y;simp at this ⊢;exact this
  | true=>
   rw[hp]at c;by_cases k:x.vars[i].1∈(x.vars.take i).map Prod.fst
   ·rw[Γ (by simp),ab k]at c;refine ax U (by rw[qb k];simp) ?_;refine ε<|γ U<|γ U<|δ (aj ⟨_,rfl,?_⟩);have:=c r s y;rw[qb k];simp;exact this
   ·rw[Γ (by simp),Γ k]at c;refine az U (by rw[fB k];simp)<|ay ?_;refine aP<|cj U U ⟨by omega,by omega⟩<|γ U<|δ ?_;exact au (ih (i+1) r s (by omega) (by omega) y c) (Θ.rf U)
def w42(k:Cd C)(hv:dV h n vv x.vars)(o:kv.one=true)(q:x.vars.length<1000)(r:∀v∈x.vars,v.1.length<10000000)(c:∀h' n',Ext h n h' n'->Q (.i .i64 (lL x)) h' n'):μ C (.f 42 [] []) [.a (kQ x vv kv pl)] h n Q:=by
 refine μ.go k.f42 U ?_;refine ε<|eL U U (uG x (κ.one hv) o) <| λh1 n1 u s l=>γ U<|δ ?_;have hb:Cl h1 n1 n (kQ x vv kv pl) 95:=⟨by omega,s⟩;have lv:bc h1 false 1 (.p n (0+0+3))=some vv:=hb.ld U _;have lo:bc h1 false 1 (.p n (0+0+0))=some (.i .i64 x.op):=hb.ld U _;have g:=hv.ext l;have go:lL x=qE x.vars x.vars.length 0->WC C Ft [(k1,.p n 0)] h1 n1 (fq [.t k2] Q):=by intro he;refine φ<|ε<|χ U<|χ U<|ν U lv<|aJ U g<|γ U<|δ ?_;exact aA<|au (akT k g q r hb _ 0 h1 n1 rfl (by omega) (Ext.refl _ _) (λh' n' e=>by rw[mY,←he];exact c _ _ (l.trans e))) (Θ.rf U)
 have bad:lL x=5->WC C aec [] h1 n1 (sq C Ft (fq [.t k2] Q)):=by intro he;have c:=c h1 n1 l;rw[he]at c;refine ε<|γ U<|δ (aj ⟨_,rfl,c⟩)
 by_cases j:x.op=17\/x.op=18
 ·have m:decide (x.op=17\/x.op=18)=true:=qb j;have d:∀{Q:V->Hf->K->Prop},Q (.b true) h1 n1->μ C (.f 101 [] []) [.i .i64 x.op] h1 n1 Q:=λc=>uE k.f101 (by rw[m];exact c);by_cases h1:x.vars.length<1
  ·refine φ<|ε<|χ U<|χ U<|ν U lo<|ah U U<|d<|cz U<|γ U<|θ U (rfl)<|θ U (rfl)<|θ U (rfl)<|θ U (rfl)<|θ U (rfl)<|aW U (rfl) U<|γ U<|ζ U U<|χ U<|ζ U U<|χ U<|ζ U U<|ν U lo<|ζ U U<|ah U U<|d<|ζ U U<|γ U<|ζ U (rfl)<|χ U<|ζ U (rfl)<|χ U<|ζ U (rfl)<|ν U lv<|ζ U (rfl)<|aJ U g<|ζ U (rfl)<|aH U U<|ζ U (rfl)<|γ U<|θ U (by simp<;>omega)<|θ U (by simp<;>omega)<|θ U (by simp<;>omega)<|θ U (by simp<;>omega)<|θ U (by simp<;>omega)<|ζ U (rfl)<|bh U (by simp<;>omega) U<|ζ U U<|bh U (rfl) U<|aW U U U<|δ ?_;exact ax U (by simp<;>omega)<|au (bad (by simp only[lL,ab j,ab (Or.inl h1)])) trivial
  ·refine φ<|ε<|χ U<|χ U<|ν U lo<|ah U U<|d<|cz U<|γ U<|θ U (rfl)<|θ U (rfl)<|θ U (rfl)<|θ U (rfl)<|θ U (rfl)<|aW U (rfl) U<|γ U<|ζ U U<|χ U<|ζ U U<|χ U<|ζ U U<|ν U lo<|ζ U U<|ah U U<|d<|ζ U U<|γ U<|ζ U (rfl)<|χ U<|ζ U (rfl)<|χ U<|ζ U (rfl)<|ν U lv<|ζ U (rfl)<|aJ U g<|ζ U (rfl)<|aH U U<|ζ U (rfl)<|γ U<|ζ U (by simp<;>omega)<|χ U<|ζ U (by simp<;>omega)<|χ U<|ζ U (by simp<;>omega)<|ν U lv<|ζ U (by simp<;>omega)<|aJ U g<|ζ U (by simp<;>omega)<|dH U U<|ζ U (rfl)<|aW U (by simp<;>omega) U<|ζ U U<|bh U (rfl) U<|aW U U U<|δ ?_;by_cases h2:12<x.vars.length
   ·exact ax U (by simp<;>omega)<|au (bad (by simp only[lL,ab j,ab (Or.inr h2)])) trivial
   ·exact az U (by simp<;>omega)<|ay<|au (go (by simp only[lL,ab j];rw[Γ (by omega)])) (Θ.rf U)
 ·have m:decide (x.op=17\/x.op=18)=false:=fB j;have d:∀{Q:V->Hf->K->Prop},Q (.b false) h1 n1->μ C (.f 101 [] []) [.i .i64 x.op] h1 n1 Q:=λc=>uE k.f101 (by rw[m];exact c);by_cases h2:0<x.vars.length
  ·refine φ<|ε<|χ U<|χ U<|ν U lo<|ah U U<|d<|cz U<|γ U<|ζ U (rfl)<|χ U<|ζ U (rfl)<|χ U<|ζ U (rfl)<|ν U lv<|ζ U (rfl)<|aJ U g<|ζ U (rfl)<|dH U U<|bh U (rfl) U<|γ U<|θ U (by simp<;>omega)<|θ U (by simp<;>omega)<|θ U (by simp<;>omega)<|θ U (by simp<;>omega)<|θ U (by simp<;>omega)<|fI U<|fI U<|fI U<|fI U<|fI U<|fI U<|fI U<|fI U<|fI U<|fI U<|fI U<|fI U<|θ U (by simp<;>omega)<|bh U (by simp<;>omega) U<|δ ?_;exact ax U (by simp<;>omega)<|au (bad (by simp only[lL,Γ j,ab h2])) trivial
  ·refine φ<|ε<|χ U<|χ U<|ν U lo<|ah U U<|d<|cz U<|γ U<|ζ U (rfl)<|χ U<|ζ U (rfl)<|χ U<|ζ U (rfl)<|ν U lv<|ζ U (rfl)<|aJ U g<|ζ U (rfl)<|dH U U<|bh U (rfl) U<|γ U<|ζ U (fB (show ¬ (0:Int)<((x.vars.length:Nat):Int) by omega))<|χ U<|ζ U (fB (show ¬ (0:Int)<((x.vars.length:Nat):Int) by omega))<|χ U<|ζ U (fB (show ¬ (0:Int)<((x.vars.length:Nat):Int) by omega))<|ν U lo<|ζ U (fB (show ¬ (0:Int)<((x.vars.length:Nat):Int) by omega))<|ah U U<|d<|ζ U (fB (show ¬ (0:Int)<((x.vars.length:Nat):Int) by omega))<|γ U<|θ U (rfl)<|θ U (rfl)<|θ U (rfl)<|θ U (rfl)<|θ U (rfl)<|θ U (rfl)<|fI U<|fI U<|fI U<|fI U<|fI U<|θ U (rfl)<|ζ U (fB (show ¬ (0:Int)<((x.vars.length:Nat):Int) by omega))<|aW U (rfl) U<|aW U (fB (show ¬ (0:Int)<((x.vars.length:Nat):Int) by omega)) U<|δ ?_;refine az U U<|ay<|au (go ?_) (Θ.rf U);have:x.vars.length=0:=by omega
   simp only[lL,Γ j,Γ h2,this];rfl
end
end
section
variable {C:Nat->Option aE}{h:Hf}{n:K}{Q:V->Hf->K->Prop}
def conn:List V:=[.s 4 1702195828,.i .i64 0,.s 4 1819242306,.f 351 [] [],.s 5 435728179558,.i .i64 0,.s 4 1819242306,.f 351 [] [],.s 0 0,.i .i64 0,.s 1 110,.f 351 [] [],.s 0 0,.i .i64 0,.s 1 115,.f 351 [] [],.s 0 0,.i .i64 (-1),.s 1 115,.nf,.s 3 7630702,.i .i64 1,.s 4 1819242306,.f 351 [] [],.s 3 6581857,.i .i64 (-1),.s 4 1819242306,.f 351 [] [],.s 2 29295,.i .i64 (-1),.s 4 1819242306,.f 351 [] [],.s 2 15933,.i .i64 2,.s 4 1819242306,.f 351 [] [],.s 3 6710889,.i .i64 2,.s 4 1819242306,.f 351 [] [],.s 3 6648937,.i .i64 3,.s 1 115,.f 352 [] [],.s 1 61,.i .i64 2,.s 4 1819242306,.f 353 [] [],.s 1 43,.i .i64 2,.s 1 110,.f 354 [] [],.s 1 45,.i .i64 2,.s 1 110,.f 354 [] [],.s 1 42,.i .i64 2,.s 1 110,.f 354 [] [],.s 1 60,.i .i64 2,.s 4 1819242306,.f 354 [] [],.s 2 15676,.i .i64 2,.s 4 1819242306,.f 354 [] [],.s 6 119212747157350,.i .i64 (-2),.s 4 1819242306,.f 355 [] [],.s 6 126943989692517,.i .i64 (-2),.s 4 1819242306,.f 356 [] [],.s 1 33,.i .i64 (-2),.s 1 45,.nf]
def Gl(h:Hf)(n:K):Prop:=k0.num<n.num/\h k0=some (.r conn)
def Gl.ext{h':Hf}{n':K}(a:Gl h n)(e:Ext h n h' n'):Gl h' n':=⟨eE a.1 e.1,by rw[e.2 _ a.1];exact a.2⟩
def Gl.ld(a:Gl h n){o:Nat}{v:V}(hv:nth conn o=some v)(sz:Nat):bc h false sz (.p k0 o)=some v:=by simp only[bc,iP,a.2,O.row,cond_false];exact hv
def oa(o:Nat):S:=if o=2\/o=12\/o=13\/o=14 then [110] else if o=3\/o=4\/o=10 then [115] else if o=19 then [45] else FR
def wB(o:Nat):Int:=if o=0\/o=1\/o=2\/o=3 then 0 else if o=4\/o=6\/o=7 then -1 else if o=5 then 1 else if o=10 then 3 else if o=17\/o=18\/o=19 then -2 else 2
def Uj{o:Nat}(h:o<20):nth conn (0+o*4+2)=some (st (oa o))/\nth conn (0+o*4+1)=some (.i .i64 (wB o)):=by
 have:o=0\/o=1\/o=2\/o=3\/o=4\/o=5\/o=6\/o=7\/o=8\/o=9\/o=10\/o=11\/o=12\/o=13\/o=14\/o=15\/o=16\/o=17\/o=18\/o=19:=by omega
 rcases this with rfl | rfl | rfl | rfl | rfl | rfl | rfl | rfl | rfl | rfl | rfl | rfl | rfl | rfl | rfl | rfl | rfl | rfl | rfl | rfl<;>exact⟨rfl,rfl⟩
def yu(x:Nd):Bool:=
 if oa x.op.toNat=[110] then !decide (x.sort=pB\/x.sort=rM)||(decide (x.op=2)&&(decide (jt x.name=0)!=decide (x.sort=pB)))
 else if oa x.op.toNat=[115] then decide (x.sort=[]) else if oa x.op.toNat=[45] then !decide (x.sort=[]) else !decide (x.sort=oa x.op.toNat)
def w43(g:Cd C){x:Nd}{vv kv:V}{i:Nat}(w:Gl h n)(E:0<=x.op/\x.op<20)(hv:vv.one=true)(y:kv.one=true)(hl:x.name.length<1000000)(j:∀h' n',Ext h n h' n'->Q (.i .i64 (if yu x then 13 else 0)) h' n'):μ C (.f 43 [] []) [.a (kQ x vv kv i)] h n Q:=by
 obtain⟨o,u⟩:∃o:Nat,x.op=(o:Nat):=⟨x.op.toNat,by omega⟩;have z:o<20:=by omega
 have A:x.op.toNat=o:=by omega
 refine μ.go g.f43 U ?_;refine ε<|eL U U (uG x hv y) <| λh1 n1 F B v=>γ U<|δ ?_;have s:Cl h1 n1 n (kQ x vv kv i) 95:=⟨by omega,B⟩;have lo:∀{h' n'},Ext h1 n1 h' n'->bc h' false 1 (.p n (0+0+0))=some (.i .i64 (o:Nat)):=λe=>by rw[←u];exact(s.ext e).ld U _
 have ls:∀{h' n'},Ext h1 n1 h' n'->bc h' false 1 (.p n (0+0+1))=some (st x.sort):=λe=>(s.ext e).ld U _;have ln:∀{h' n'},Ext h1 n1 h' n'->bc h' false 1 (.p n (0+0+2))=some (st x.name):=λe=>(s.ext e).ld U _;have D:=w.ext v;have c:=Ext.refl h1 n1;refine ε<|γ U<|δ ?_;refine φ<|ε<|χ U<|χ U<|ν U (lo c)<|uu U U (by omega)<|χ U<|ν U (D.ld (Uj z).1 _)<|γ U<|δ ?_;have fin:∀(b:Bool) h2 d,Ext h1 n1 h2 d->yu x=b->WC C aef [(k3,.b b)] h2 d (fq [.t k2] Q):=by intro b h2 d k hb;have:=j h2 d (v.trans k);rw[hb]at this;refine ε<|γ U<|ah U U<|nI g.f37<|γ U<|δ (aj ⟨_,rfl,this⟩)
 unfold yu at fin;rw[A,u]at fin;generalize oa o=cs at*;refine ε<|γ U<|δ ?_;refine aA<|ε<|iS (b:=[110]) U U<|γ U<|δ ?_;refine lA U (λl=>?_) (λl=>?_)
 ·simp only[cC]at l;rw[ab l]at fin;by_cases hs:x.sort=pB\/x.sort=rM
  ·have ds:decide (x.sort=pB\/x.sort=rM)=true:=qb hs;rw[ds]at fin;have r:∀{Q:V->Hf->K->Prop},Q (.b true) h1 n1->μ C (.f 105 [] []) [st x.sort] h1 n1 Q:=λj=>S8 g (by rw[ds];exact j);by_cases h2:o=2
   ·subst h2;have:((2:Nat):Int)=2:=rfl;refine rB<|cI U<|cI U<|aO U (ls c) U (iR _ _)<|ch U U<|r<|xX U<|aI U<|cG U (rfl)<|cI U<|cG U (rfl)<|cI U<|cG U (rfl)<|aO U (lo c) U (gJ _ _)<|cG U (rfl)<|zT U U<|cG U (rfl)<|aI U<|cG U (rfl)<|cI U<|cG U (rfl)<|cI U<|cG U (rfl)<|aO U (ln c) U (iR _ _)<|cG U (rfl)<|ch U U<|CN g hl <| λh2 d k=>cG U (rfl)<|zT U U<|cG U (rfl)<|cI U<|cG U (rfl)<|cI U<|cG U (rfl)<|aO U (ls k) U (iR _ _)<|cG U (rfl)<|adq (b:=[73,110,116]) U U<|cG U (rfl)<|ads U U<|cG U (rfl)<|Ch U (rfl) U<|xW U (rfl) U<|aI U<|df (⟨⟨cT (ls c) (ls k),al (by simp[Nat.testBit]),trivial⟩,⟨al (by simp[Nat.testBit]),al (by simp[Nat.testBit]),trivial⟩,⟨al (by simp[Nat.testBit]),al (by simp[Nat.testBit]),trivial⟩,⟨al (by simp[Nat.testBit]),al (by simp[Nat.testBit]),trivial⟩,trivial⟩) ?_;exact au (fin _ h2 d k (by simp;rfl)) (Θ.rf U)
   ·refine rB<|cI U<|cI U<|aO U (ls c) U (iR _ _)<|ch U U<|r<|xX U<|aI U<|cG U (rfl)<|cI U<|cG U (rfl)<|cI U<|cG U (rfl)<|aO U (lo c) U (gJ _ _)<|cG U (rfl)<|zT U U<|cG U (rfl)<|aI U<|eK U (by simp<;>omega)<|eK U (by simp<;>omega)<|eK U (by simp<;>omega)<|eK U (by simp<;>omega)<|eK U (by simp<;>omega)<|eK U (by simp<;>omega)<|eK U (by simp<;>omega)<|eK U (by simp<;>omega)<|eK U (by simp<;>omega)<|eK U (by simp<;>omega)<|cG U (rfl)<|xW U (by simp<;>omega) U<|xW U (rfl) U<|aI U<|df (⟨⟨al (by simp[Nat.testBit]),trivial⟩,⟨al (by simp[Nat.testBit]),trivial⟩,trivial⟩) ?_;exact au (fin false h1 n1 c (by simp;omega)) (Θ.rf U)
  ·have ds:decide (x.sort=pB\/x.sort=rM)=false:=fB hs;rw[ds]at fin;have r:∀{Q:V->Hf->K->Prop},Q (.b false) h1 n1->μ C (.f 105 [] []) [st x.sort] h1 n1 Q:=λj=>S8 g (by rw[ds];exact j);refine rB<|cI U<|cI U<|aO U (ls c) U (iR _ _)<|ch U U<|r<|xX U<|aI U<|eK U (rfl)<|eK U (rfl)<|eK U (rfl)<|eK U (rfl)<|eK U (rfl)<|sY U<|sY U<|sY U<|sY U<|sY U<|sY U<|sY U<|sY U<|sY U<|sY U<|eK U (rfl)<|Ch U (rfl) U<|aI U<|df (⟨⟨al (by simp[Nat.testBit]),trivial⟩,trivial⟩) ?_;exact au (fin true h1 n1 c rfl) (Θ.rf U)
 simp only[gT]at l;rw[Γ l]at fin;refine ε<|iS (b:=[115]) U U<|γ U<|δ ?_;refine lA U (λm=>?_) (λm=>?_)
 ·simp only[cC]at m;rw[ab m]at fin;refine aP<|χ U<|χ U<|ν U (ls c)<|iS (b:=[]) U U<|γ U<|δ ?_;exact au (fin _ h1 n1 c rfl) (Θ.rf U)
 simp only[gT]at m;rw[Γ m]at fin;refine ε<|iS (b:=[45]) U U<|γ U<|δ ?_;refine lA U (λq=>?_) (λq=>?_)
 ·simp only[cC]at q;rw[ab q]at fin;refine aP<|χ U<|χ U<|ν U (ls c)<|qy (b:=[]) U U<|γ U<|δ ?_;exact au (fin _ h1 n1 c rfl) (Θ.rf U)
 simp only[gT]at q;rw[Γ q]at fin;refine aP<|χ U<|χ U<|ν U (ls c)<|γ U<|qy U U<|γ U<|δ ?_;exact au (fin _ h1 n1 c rfl) (Θ.rf U)
def akV{s:S}(h:jt s=0):rK s≠0:=by
 obtain⟨hf,_⟩:=FP h;obtain⟨b,_⟩:=FO hf;have f:oG s=false:=by
  cases hs:oG s with
  | false=>rfl
  | true=>
   obtain⟨c,a,he⟩:=List.any_eq_true.1 hs;simp only[cC]at he;exfalso;cases s with
   | nil=>cases a
   | cons d l=>
    by_cases e:d.toNat=45
    ·rcases cD.1 a with rfl | a
     ·omega
     ·have hb:body (d::l)=l:=by simp[body,e]
      have:=Ky (b c (by rw[hb];exact a));omega
    ·have hb:body (d::l)=d::l:=by simp[body,e]
     have:=Ky (b c (by rw[hb];exact a));omega
 have hs:uD s=none:=by unfold uD;rw[S0 f]
 unfold rK;rw[hs];simp
def akW{x:Nd}(z:0<=x.op/\x.op<20)(c:mD x=0):(if yu x then 13 else 0)=yh x:=by
 obtain⟨o,j⟩:∃o:Nat,x.op=(o:Nat):=⟨x.op.toNat,by omega⟩;have k:x.op.toNat=o:=by omega
 unfold yu yh;rw[k];unfold mD at c;rw[j]at c ⊢;have l:((o:Int)=2)↔o=2:=by omega
 have m:((o:Int)=3)↔o=3:=by omega
 have p:((o:Int)=4)↔o=4:=by omega
 have q:((o:Int)=10)↔o=10:=by omega
 have r:((o:Int)=12)↔o=12:=by omega
 have s:((o:Int)=13)↔o=13:=by omega
 have t:((o:Int)=14)↔o=14:=by omega
 have u:((o:Int)=19)↔o=19:=by omega
 simp only[l,m,p,q,r,s,t,u]at c ⊢;by_cases h2:o=2
 ·subst h2;have b:oa 2=[110]:=rfl;rw[b,ab rfl,ab rfl];rw[ab rfl]at c;have v:jt x.name=0\/rK x.name=0:=by
   cases hi:isNumeral x.name with
   | true=>simpa[isNumeral]using hi
   | false=>rw[hi]at c;simp at c
  have w:x.sort=pB->¬ x.sort=rM:=λe=>by rw[e];decide
  have y:x.sort=rM->¬ x.sort=pB:=λe=>by rw[e];decide
  by_cases h1:x.sort=pB
  ·have:=w h1;by_cases a:jt x.name=0
   ·simp[h1,a]
   ·simp[h1,a]
  ·by_cases d:x.sort=rM
   ·have:=y d;by_cases a:jt x.name=0
    ·have:=akV a;simp[h1,d,a,this]
    ·have:rK x.name=0:=v.resolve_left a;simp[h1,d,a,this]
   ·simp[h1,d]
 ·rw[Γ h2];by_cases g:o=12\/o=13\/o=14
  ·have b:oa o=[110]:=by simp[oa,g]
   rw[b,ab rfl,ab g];by_cases h1:x.sort=pB\/x.sort=rM<;>simp[h1,h2]
  ·rw[Γ g];have i:¬ (o=2\/o=12\/o=13\/o=14):=λh=>by omega
   by_cases a:o=3\/o=4\/o=10
   ·have b:oa o=[115]:=by unfold oa;rw[Γ i,ab a]
    rw[b,ab a];by_cases h1:x.sort=[]<;>simp[h1]
   ·rw[Γ a];by_cases f:o=19
    ·have b:oa o=[45]:=by unfold oa;rw[Γ i,Γ a,ab f]
     rw[b,ab f];by_cases h1:x.sort=[]<;>simp[h1]
    ·have b:oa o=FR:=by unfold oa;rw[Γ i,Γ a,Γ f]
     rw[b,Γ f];by_cases h1:x.sort=FR<;>simp[h1]
def akX{o:Nat}(h:o<20)(k:Nat):nN (o:Int) k=!(decide (0<=wB o/\(k:Int)≠wB o)||decide (wB o = -2/\k=0)):=by
 have:o=0\/o=1\/o=2\/o=3\/o=4\/o=5\/o=6\/o=7\/o=8\/o=9\/o=10\/o=11\/o=12\/o=13\/o=14\/o=15\/o=16\/o=17\/o=18\/o=19:=by omega
 rcases this with rfl | rfl | rfl | rfl | rfl | rfl | rfl | rfl | rfl | rfl | rfl | rfl | rfl | rfl | rfl | rfl | rfl | rfl | rfl | rfl<;>simp[nN,wB]<;>(try omega)<;>(cases k<;>simp<;>omega)
end
section
variable {C:Nat->Option aE}{h:Hf}{n:K}{Q:V->Hf->K->Prop}
def akY{ts:List Nd}:∀(j i m:Nat),(∀k,k<j->ki ts (i+k)=0)->ki ts (i+j)≠0->j<m->mE ts m i=ki ts (i+j):=by
 intro j
 induction j with
 | zero=>
  intro i m b a hm;cases m with
  | zero=>omega
  | succ m=>rw[j6]at a;rw[mE,ab a,j6]
 | succ j ih=>
  intro i m b a hm;cases m with
  | zero=>omega
  | succ m=>
   rw[mE,Γ (by simpa using b 0 (by omega)),ih (i+1) m (λk c=>by rw[show i+1+k=i+(k+1) by omega];exact b _ (by omega)) (by rw[show i+1+j=i+(j+1) by omega];exact a) (by omega)];congr 1;omega
def akZ{ts:List Nd}:∀(m i:Nat),(∀k,k<m->ki ts (i+k)=0)->mE ts m i=0:=by
 intro m
 induction m with
 | zero=>intro i a;rfl
 | succ m ih=>
  intro i a;rw[mE,Γ (by simpa using a 0 (by omega))];exact ih (i+1) λk b=>by rw[show i+1+k=i+(k+1) by omega];exact a _ (by omega)
def Li{ts:List Nd}{i:Nat}(hi:i<ts.length)(h:ki ts i=0):ord ts i=true:=by
 rw[Tl hi]at h;by_cases a:nP ts ts[i] i=0
 ·exact aiv a
 ·rw[ab a]at h;exact absurd h a
section
variable {b1 b2 b4:K}{t vv kv:V}{ts:List Nd}{i:Nat}
def ak0(y:Cd C)(hb:Bd ts)(Z:Gl h n)(hi:i<ts.length)(ht:bK h n t ts)(hv:dV h n vv ts[i].vars)(u:fh h n .i64 kv ts[i].kids)(ho:∀j,j<i->ord ts j=true)
 (c1:Cl h n b1 [t] 23)(c2:Cl h n b2 [.i .i64 0] 28)(L:Cl h n b4 (kQ ts[i] vv kv i) 95){Q1:Ex->Env->Hf->K->Prop}
 (M:∀e h1 h' n' E',e=ki ts i->e≠0->Ext h n h1 n'->bA b2 h1 h'->h' b2=some (.c [.i .i64 e] 28 0)->Q1 .ret E' h' n')
 (qz:ki ts i=0->∀h' n' E',Ext h n h' n'->Q1 .normal E' h' n'):
 WC C Jl [(k1,.p b1 0),(k2,.p b2 0),(k4,.p b4 0)] h n Q1:=by
 have hlen:=hb.len;have v:=Tl hi;have w:nP ts ts[i] i=if uK ts[i].op then 11 else if nN ts[i].op ts[i].kids.length=false then 2 else if ord ts i=false then 9 else 0:=by unfold nP;rw[Kz];cases uK ts[i].op<;>cases nN ts[i].op ts[i].kids.length<;>cases ord ts i<;>simp
 have lo:bc h false 1 (.p b4 (0+0+0))=some (.i .i64 ts[i].op):=L.ld U _;by_cases F:uK ts[i].op=true
 ·rw[w,ab F,ab (by decide)]at v;have fin:∀E,Θ [(k2,.p b2 0)] E->WC C adW E h n (sq C Jm Q1):=by
   intro E G;refine dO G ?_;refine ε<|aR U U c2.2 U <| λA I b7=>δ ?_;exact aj (M 11 h A n _ v.symm (by decide) (Ext.refl _ _) b7 I)
  by_cases h0:ts[i].op<0
  ·refine φ<|ε<|χ U<|χ U<|ν U lo<|aH U U<|γ U<|θ U (by simp[h0])<|θ U (by simp[h0])<|θ U (by simp[h0])<|θ U (by simp[h0])<|bh U (by simp[h0]) U<|δ ?_;exact ax U (by simp[h0])<|fin _ (Θ.rf U)
  ·have Hm:20<=ts[i].op:=by simpa[uK,h0]using F
   refine φ<|ε<|χ U<|χ U<|ν U lo<|aH U U<|γ U<|ζ U (by simp[h0])<|χ U<|ζ U (by simp[h0])<|χ U<|ζ U (by simp[h0])<|ν U lo<|ζ U (by simp[h0])<|iC U U<|aW U (by simp[h0]) U<|δ ?_;exact ax U (by simp[Hm])<|fin _ (Θ.rf U)
 ·simp only[sN]at F;rw[F]at w;have bj:0<=ts[i].op/\ts[i].op<20:=by
   simp only[uK,xn,gT]at F;omega
  refine φ<|ε<|χ U<|χ U<|ν U lo<|aH U U<|γ U<|ζ U (by simp<;>omega)<|χ U<|ζ U (by simp<;>omega)<|χ U<|ζ U (by simp<;>omega)<|ν U lo<|ζ U (by simp<;>omega)<|iC U U<|aW U (by simp<;>omega) U<|δ ?_;refine az U (by simp<;>omega)<|ay ?_;obtain⟨o,hoo⟩:∃o:Nat,ts[i].op=(o:Nat):=⟨ts[i].op.toNat,by omega⟩;have F7:o<20:=by omega
  have rq:bc h false 1 (.p b4 (0+0+0))=some (.i .i64 (o:Nat)):=by rw[←hoo];exact lo
  have S:bc h false 1 (.p b4 (0+0+4))=some kv:=L.ld U _;refine ε<|χ U<|χ U<|ν U rq<|uu U U (by omega)<|χ U<|ν U (Z.ld (Uj F7).2 _)<|γ U<|δ ?_;have B:=akX F7 ts[i].kids.length;rw[←hoo]at B;have next:nN ts[i].op ts[i].kids.length=true->∀E,Θ [(k1,.p b1 0),(k2,.p b2 0),(k4,.p b4 0)] E->WC C Jn E h n Q1:=by
   intro hs E G;rw[hs]at w;refine dO G ?_;have DX:WC C Jn [(k1,.p b1 0),(k2,.p b2 0),(k4,.p b4 0)] h n Q1:=by
    refine φ<|ε<|ν U (c1.ld U _)<|ν U (bP L.2 rfl)<|ah U U<|w39 y ht (by omega) hi u (hb.jM i hi) (κ.one hv) ho <| λh2 N r=>cz U<|δ ?_;by_cases O:ord ts i=true
    ·rw[O]at w ⊢;have J:nP ts ts[i] i=0:=by rw[w];rfl
     rw[J,Γ (by simp)]at v;refine az U U<|ay ?_;have nM:=FU hi O;have x1:∀{h' n'},Ext h2 N h' n'->Ext h n h' n':=λe=>r.trans e;have be:∀{n':K},n.num<=n'.num->bz n' (.a (kQ ts[i] vv kv i))=true:=by intro n' D;have h1:=κ.below hv D;have h2:=κ.below u D;simp only[bz,kQ,gG,h1,h2];rfl
     have P:dK (.a (kQ ts[i] vv kv i)) (.a (kQ ts[i] vv kv i))=true:=by have h1:=κ.dL hv;have h2:=κ.dL u;simp only[dK,kQ];exact rC (gJ _ _) (rC (iR _ _) (rC (iR _ _) (rC h1 (rC h2 (rC (gJ _ _) U)))))
     obtain⟨cs,wM⟩:=ht.sl;have bt:=κ.below wM (n':=N) (by have:=r.1;omega);have row:∀{H:Hf},Ag N h2 H->bc H true 6 (.p b4 0)=some (.a (kQ ts[i] vv kv i)):=λag=>bP ((L.ext r).ext (ag.x (ξ _))).2 rfl;have z2:=r.1;have T:∀(z:Int),(if yu ts[i] then 13 else 0)=z->fm [if lK ts ts[i].op ts[i].kids.length ts[i].kids 0 then 11 else 0,mD ts[i],lL ts[i],z]=yi ts ts[i]:=by
      intro z T;unfold yi;rw[Tk,Tk];by_cases D:mD ts[i]=0
      ·rw[←T,akW bj D]
      ·rw[ab D,ab D]
     refine eT<|aO U ((c1.ext r).ld U _) bt (κ.dL wM)<|aO U (row (Ag.refl _ _)) (be z2) P<|ch U U<|w40 y (ht.ext r) (by omega) (κ.one hv) (u.ext r) (hb.jM i hi) nM <| λh3 n3 d=>aO U (row d.ag) (be (by have:=d.1;omega)) P<|ch U U<|w41 y (κ.one hv) (κ.one u) (hb.nm i hi) <| λh4 n4 f=>aO U (row (d.trans f).ag) (be (by have:=d.1;have:=f.1;omega)) P<|ch U U<|w42 y (hv.ext (r.trans (d.trans f))) (κ.one u) (hb.vl i hi) (hb.vn i hi) <| λh5 n5 g=>aO U (row ((d.trans f).trans g).ag) (be (by have:=d.1;have:=f.1;have:=g.1;omega)) P<|ch U U<|w43 y (Z.ext (r.trans ((d.trans f).trans g))) bj (κ.one hv) (κ.one u) (hb.nm i hi) <| λh6 s q=>th U <| λA n7 sG I e7=>ch U U<|A3 y.f36 (l:=[if lK ts ts[i].op ts[i].kids.length ts[i].kids 0 then 11 else 0,mD ts[i],lL ts[i],if yu ts[i] then 13 else 0]) (κ.whole (len:=4) (by omega) I rfl) (by simp)<|aI U<|df (⟨⟨al (by simp[Nat.testBit]),al (by simp[Nat.testBit]),cT (row ((d.trans f).ag.hp s none (((d.trans f).trans g).trans q).1)) (row (((d.trans f).trans g).ag.hp s none (((d.trans f).trans g).trans q).1)),cT (row (d.ag.hp s none (((d.trans f).trans g).trans q).1)) (row ((d.trans f).ag.hp s none (((d.trans f).trans g).trans q).1)),cT (row ((Ag.refl _ _).hp s none (((d.trans f).trans g).trans q).1)) (row (d.ag.hp s none (((d.trans f).trans g).trans q).1)),trivial⟩,⟨al (by simp[Nat.testBit]),al (by simp[Nat.testBit]),al (by simp[Nat.testBit]),cT (row (d.ag.hp s none (((d.trans f).trans g).trans q).1)) (row ((d.trans f).ag.hp s none (((d.trans f).trans g).trans q).1)),cT (row ((Ag.refl _ _).hp s none (((d.trans f).trans g).trans q).1)) (row (d.ag.hp s none (((d.trans f).trans g).trans q).1)),trivial⟩,⟨al (by simp[Nat.testBit]),al (by simp[Nat.testBit]),al (by simp[Nat.testBit]),al (by simp[Nat.testBit]),cT (row ((Ag.refl _ _).hp s none (((d.trans f).trans g).trans q).1)) (row (d.ag.hp s none (((d.trans f).trans g).trans q).1)),trivial⟩,⟨al (by simp[Nat.testBit]),al (by simp[Nat.testBit]),al (by simp[Nat.testBit]),al (by simp[Nat.testBit]),al (by simp[Nat.testBit]),trivial⟩,⟨al (by simp[Nat.testBit]),al (by simp[Nat.testBit]),al (by simp[Nat.testBit]),al (by simp[Nat.testBit]),al (by simp[Nat.testBit]),trivial⟩,trivial⟩) ?_
     rw[T _ rfl];have W:Ext h n A n7:=r.trans ((((d.trans f).trans g).trans q).trans e7);refine ε<|γ U<|fJ U U<|δ ?_;by_cases R:yi ts ts[i]=0
     ·exact az U (by simp[R])<|ay<|qz (by rw[v,R]) _ _ _ W
     ·refine ax U (by simp[R]) ?_;refine ε<|γ U<|aR U U ((c2.ext W).2) U <| λX Y b8=>δ ?_;exact aj (M _ A X n7 _ v.symm R W b8 Y)
    ·simp only[sN]at O;rw[O]at w ⊢;have J:nP ts ts[i] i=9:=by rw[w];rfl
     rw[J,ab (by decide)]at v;refine ax U U ?_;refine ε<|aR U U ((c2.ext r).2) U <| λX Y b8=>δ ?_;exact aj (M 9 h2 X N _ v.symm (by decide) r b8 Y)
   exact DX
  have bad:nN ts[i].op ts[i].kids.length=false->∀E,Θ [(k2,.p b2 0)] E->WC C adX E h n (sq C Jn Q1):=by
   intro hs E G;rw[hs]at w;have J:nP ts ts[i] i=2:=by rw[w];rfl
   rw[J,ab (by decide)]at v;refine dO G ?_;refine ε<|aR U U c2.2 U <| λA I b7=>δ ?_;exact aj (M 2 h A n _ v.symm (by decide) (Ext.refl _ _) b7 I)
  by_cases b:0<=wB o
  ·by_cases k:(ts[i].kids.length:Int)=wB o
   ·refine φ<|ε<|γ U<|iC U U<|γ U<|ζ U (by simp[b])<|χ U<|ζ U (by simp[b])<|χ U<|ζ U (by simp[b])<|ν U S<|ζ U (by simp[b])<|aJ U u<|ζ U (by simp[b])<|γ U<|ζ U (by simp[b])<|fJ U U<|bh U (by simp[b]) U<|γ U<|ζ U (by simp[k])<|γ U<|ζ U (by simp[k])<|dD U U<|ζ U (by simp[k])<|γ U<|θ U (by simp<;>omega)<|θ U (by simp<;>omega)<|θ U (by simp<;>omega)<|θ U (by simp<;>omega)<|θ U (by simp<;>omega)<|ζ U (by simp[k])<|aW U (by simp<;>omega) U<|aW U (by simp[k]) U<|δ ?_;refine az U U<|ay<|next ?_ _ (Θ.rf U);rw[B];simp[k];omega
   ·refine φ<|ε<|γ U<|iC U U<|γ U<|ζ U (by simp[b])<|χ U<|ζ U (by simp[b])<|χ U<|ζ U (by simp[b])<|ν U S<|ζ U (by simp[b])<|aJ U u<|ζ U (by simp[b])<|γ U<|ζ U (by simp[b])<|fJ U U<|bh U (by simp[b]) U<|γ U<|θ U (by simp[k])<|θ U (by simp[k])<|θ U (by simp[k])<|fI U<|fI U<|fI U<|fI U<|fI U<|θ U (by simp[k])<|bh U (by simp[k]) U<|δ ?_;refine ax U (by simp[k])<|bad ?_ _ (Θ.rf U);rw[B];simp[k,b]
  ·by_cases m:wB o = -2
   ·refine φ<|ε<|γ U<|iC U U<|γ U<|θ U (by simp[b])<|θ U (by simp[b])<|θ U (by simp[b])<|θ U (by simp[b])<|θ U (by simp[b])<|θ U (by simp[b])<|aW U (by simp[b]) U<|γ U<|ζ U U<|γ U<|ζ U U<|dD U U<|ζ U U<|γ U<|ζ U (by simp[m])<|χ U<|ζ U (by simp[m])<|χ U<|ζ U (by simp[m])<|ν U S<|ζ U (by simp[m])<|aJ U u<|ζ U (by simp[m])<|dD U U<|ζ U U<|bh U (by simp[m]) U<|aW U U U<|δ ?_;by_cases k:ts[i].kids.length=0
    ·refine ax U (by simp[k])<|bad ?_ _ (Θ.rf U);rw[B];simp[k,m]
    ·refine az U (fB (by omega))<|ay<|next ?_ _ (Θ.rf U);rw[B];simp[k,b]
   ·refine φ<|ε<|γ U<|iC U U<|γ U<|θ U (by simp[b])<|θ U (by simp[b])<|θ U (by simp[b])<|θ U (by simp[b])<|θ U (by simp[b])<|θ U (by simp[b])<|aW U (by simp[b]) U<|γ U<|ζ U U<|γ U<|ζ U U<|dD U U<|ζ U U<|γ U<|θ U (by simp[m])<|θ U (by simp[m])<|θ U (by simp[m])<|θ U (by simp[m])<|θ U (by simp[m])<|ζ U U<|aW U (by simp[m]) U<|aW U U U<|δ ?_;refine az U U<|ay<|next ?_ _ (Θ.rf U);rw[B];simp[b,m]
end
end
section
variable {C:Nat->Option aE}{h:Hf}{n:K}{Q:V->Hf->K->Prop}
def w8(d:Cd C){t:V}{ts:List Nd}(hb:Bd ts)(hg:Gl h n)(ht:bK h n t ts)(R:∀h' n',Ext h n h' n'->Q (.i .i64 (cX ts)) h' n'):μ C (.f 8 [] []) [t] h n Q:=by
 obtain⟨m,tm⟩:=ht.get;obtain⟨cs,hs⟩:=ht.sl;have hlen:=hb.len;refine μ.go d.f8 U ?_;refine ε<|eL U hs.cells (eN hs.one) <| λh1 n1 dd a1 e1=>bN <| λh2 v iw a2 e2=>δ ?_;have x2:=e1.trans e2;have c1:Cl h2 v n [t] 23:=Cl.ext ⟨by omega,a1⟩ e2;have c2:Cl h2 v n1 [.i .i64 0] 28:=⟨by omega,a2⟩;have D:=hs.ext x2;have l1:∀{H:Hf},Ag v h2 H->bc H false 1 (.p n 0)=some t:=λag=>(c1.ext (ag.x (ξ _))).ld U _;have be:∀{n':K},v.num<=n'.num->bz n' t=true:=λS=>D.below S;have ve:=κ.dL D;clear a1 a2;refine φ<|eT<|aO U (l1 (Ag.refl _ _)) (be (ξ _)) ve<|Cf U D<|zT U U<|ch U U<|nI d.f37<|aO U (l1 (Ag.refl _ _)) (be (ξ _)) ve<|Cf U D<|zU U U<|ch U U<|nI d.f37<|th U <| λF G kh a3 J=>ch U U<|A3 d.f36 (l:=[if decide ((ts.length:Int)=0) then 10 else 0,if decide ((2000:Int)<ts.length) then 5 else 0]) (κ.whole (len:=2) (by omega) a3 rfl) (by simp)<|aI U<|df (⟨⟨al (by simp[Nat.testBit]),al (by simp[Nat.testBit]),Th trivial trivial,trivial⟩,⟨al (by simp[Nat.testBit]),al (by simp[Nat.testBit]),cT (l1 ((Ag.refl _ _).hp v none (ξ _))) (l1 ((Ag.refl _ _).hp v none (ξ _))),trivial⟩,⟨al (by simp[Nat.testBit]),al (by simp[Nat.testBit]),al (by simp[Nat.testBit]),trivial⟩,⟨al (by simp[Nat.testBit]),al (by simp[Nat.testBit]),al (by simp[Nat.testBit]),trivial⟩,trivial⟩) ?_
 rw[FT];have w:=x2.trans J;have L:=c2.ext J;have ret:∀(e:Int),e=cX ts->∀E,Θ [(k2,.p n1 0),(k3,.i .i64 e)] E->WC C adV E F G (sq C Rp (fq [.cell k2 false 1] Q)):=by intro e hf E hE;refine dO hE ?_;refine ε<|γ U<|aR U U L.2 U <| λh7 y b7=>δ ?_;refine aj ⟨_,jI rfl (cH y rfl _),?_⟩;rw[hf];exact R _ _ (w.Ξ b7 (by omega))
 refine ε<|γ U<|fJ U U<|δ ?_;by_cases h1:ts.length=0
 ·refine ax U (by simp[h1]) ?_;exact ret 10 (by simp[cX,h1]) _ ⟨rfl,by show some (V.i _ _)=_;simp[h1],trivial⟩
 by_cases h2:2000<ts.length
 ·refine ax U (by simp[h1]<;>omega) ?_;refine ret 5 (by simp[cX,h1,h2]) _ ⟨rfl,?_,trivial⟩;show some (V.i _ _)=_;rw[Γ (by simp[h1]),ab (by simp<;>omega)]
 refine az U ?_<|ay ?_
 ·rw[Γ (by simp[h1]),Γ (by simp<;>omega)];rfl
 have jR:=c1.ext J;refine φ<|ε<|ν U (jR.ld U _)<|ah U U<|Ko d (tm.ext w) (by omega) ?_;intro bb e h4 T x4 a4 wK Te it;refine δ ?_;have y3:=J.1;have y4:=x4.1;let I:Nat->Hf->K->Prop:=λj h' n'=>Ext F G h' n'/\(bb.num<n'.num/\h' bb=some (.c [t] e 0))/\∀i,i<j->ki ts i=0;let Dr:Ex->Hf->K->Prop:=λex h' n'=>ex=.ret/\∃h1,Ext F G h1 n'/\bA n1 h1 h'/\h' n1=some (.c [.i .i64 (cX ts)] 28 0);refine aA<|tj U it I Dr ?_ ?_ ?_ ?_ ?_ ?_ ?_ ?_
 ·rintro j h1 m1 h' n' ⟨g1,⟨g,q⟩,o⟩ ex;exact⟨g1.trans ex,⟨eE g ex.1,by rw[ex.2 _ g];exact q⟩,o⟩
 ·rintro j h1 m1 h' ⟨g1,⟨g,q⟩,o⟩ r;exact⟨g1.Ξ r (by omega),⟨g,by rw[r _ (by omega)];exact q⟩,o⟩
 ·rintro j h1 m1 ⟨g1,g,_⟩;exact⟨g.1,g.2,tm.ext (w.trans g1)⟩
 ·intro j hj;rw[rL];rfl
 ·intro h' r;have KM:T.succ.num=T.num+1:=K.eI T;exact⟨(x4.Ξ r (by omega)).succ,⟨by omega,by rw[r _ (by omega)];exact a4⟩,λi hi=>by omega⟩
 ·rintro j hj h5 n5 E1 W ⟨g1,⟨g,q⟩,o⟩ X;have Y:j<ts.length:=by rw[qC]at hj;exact hj
  rw[rL]at X;simp only[jF,kV]at X;subst X;obtain⟨vv,kv,fg,yd,kR⟩:=tm.row Y;rw[fg,Cz];have aZ:=uG ts[j] (κ.one yd) (κ.one kR) (i:=j);refine aP<|bN <| λh6 b jh a6 a=>aR U U a6 (bS rfl rfl aZ) <| λh7 y b7=>δ ⟨rfl,by rw[b7 _ (by omega),a.2 _ W],λM b8=>?_⟩;have c4:Cl M b n5 (kQ ts[j] vv kv j) 95:=(Cl.Ξ ⟨by omega,y⟩ b8 (by omega));have g11:=g1.1;have A:Ext F G M b:=((g1.trans a).Ξ b7 (by omega)).Ξ b8 (by omega);have u:=w.trans A;refine aA<|au (ak0 d hb (hg.ext u) Y (ht.ext u) (yd.ext u) (kR.ext u) (λi hi=>Li (by omega) (o i hi)) (jR.ext A) (L.ext A) c4 ?_ ?_) (Θ.rf U)
  ·intro er h9 h' n' E' he aG s b9 a9;have z9:=s.1;have hf:cX ts=er:=by
    have D4:=akY (ts:=ts) j 0 ts.length (λk Z=>by rw[eV];exact o k Z) (by rw[eV,←he];exact aG) Y;rw[eV,←he]at D4;unfold cX;rw[Γ h1,Γ h2,D4,ab aG]
   refine⟨by omega,(b9 _ (by omega)).trans (s.2 _ (by omega)),rfl,h9,A.trans s,b9,by rw[hf];exact a9⟩
  ·intro he h' n' E' s;have z9:=s.1;refine⟨by omega,s.2 _ (by omega),A.trans s,⟨by omega,?_⟩,λi hi=>?_⟩
   ·rw[s.2 _ (by omega),b8 _ (by omega),b7 _ (by omega),a.2 _ g];exact q
   ·by_cases mK:i=j
    ·rw[mK];exact he
    ·exact o i (by omega)
 ·rintro h' n' W ⟨g1,⟨g,q⟩,o⟩;rw[qC]at o;have ho:∀j,j<ts.length->ord ts j=true:=λj hj=>Li hj (o j hj);have hz:mE ts ts.length 0=0:=akZ _ _ λk Z=>by rw[eV];exact o k Z
  have hfe:cX ts=Al ts:=by unfold cX;rw[Γ h1,Γ h2,hz,Γ (by simp)]
  have u:=w.trans g1;have N:=ht.ext u;obtain⟨csF,O⟩:=N.sl;have P:ts.length - 1<ts.length:=by omega
  have cF:=jR.ext g1;have dF:=L.ext g1;refine ε<|ν U (cF.ld U _)<|aJ U O<|py U U (show(ts.length:Int) - 1=((ts.length - 1:Nat):Int) by omega) ⟨by omega,by omega⟩<|γ U<|δ ?_;have lt:∀{H:Hf},Ag n' h' H->bc H false 1 (.p n 0)=some t:=λag=>(cF.ext (ag.x (ξ _))).ld U _;have B:∀{H:Hf},Ag n' h' H->bc H false 1 (.p t.blk (t.off+(ts.length - 1)*5+0))=some (.i .i64 (dZ ts (ts.length - 1))):=λag=>by obtain⟨vv,kv,hx⟩:=(N.ext (ag.x (ξ _))).node P;have:=hx.op 1;rw[←S7 P]at this;exact this
  have Y8:∀{mG:K},n'.num<=mG.num->bz mG t=true:=λS=>O.below S;have Y9:=κ.dL O;refine eT<|aO U (lt (Ag.refl _ _)) (Y8 (ξ _)) Y9<|aI U<|ch U U<|Yx d.f44 N (by omega) P (λj hj=>ho j (by omega))<|QW U U<|ch U U<|nI d.f37<|aO U (lt (Ag.refl _ _)) (Y8 (ξ _)) Y9<|aI U<|js U U O P<|cI U<|aO U (B (Ag.refl _ _)) U (gJ _ _)<|zT U U<|ch U U<|nI d.f37<|aO U (lt (Ag.refl _ _)) (Y8 (ξ _)) Y9<|ch U U<|w45 d N (by omega) (by omega) hb.jM ho <| λh6 b a=>zU U U<|ch U U<|nI d.f37<|th U <| λh7 n7 sG y e7=>ch U U<|A3 d.f36 (l:=[if (!decide (((fs ts (ts.length - 1):Nat):Int)=0)) then 9 else 0,if decide (dZ ts (ts.length - 1)=19) then 11 else 0,if decide (60<rN ts) then 24 else 0]) (κ.whole (len:=3) (by omega) y rfl) (by simp)<|fK U U (((dF.ext a).ext e7).2) U <| λM a8 b8=>df (⟨⟨al (by simp[Nat.testBit]),al (by simp[Nat.testBit]),al (by simp[Nat.testBit]),al (by simp[Nat.testBit]),cT (lt ((Ag.refl _ _).hp b none a.1)) (lt ((Ag.refl _ _).hp b none a.1)),cT (lt ((Ag.refl _ _).hp b none a.1)) (lt ((Ag.refl _ _).hp b none a.1)),cT (lt ((Ag.refl _ _).hp b none a.1)) (lt ((Ag.refl _ _).hp b none a.1)),trivial⟩,⟨al (by simp[Nat.testBit]),al (by simp[Nat.testBit]),al (by simp[Nat.testBit]),al (by simp[Nat.testBit]),al (by simp[Nat.testBit]),cT (B ((Ag.refl _ _).hp b none a.1)) (B ((Ag.refl _ _).hp b none a.1)),cT (B ((Ag.refl _ _).hp b none a.1)) (B ((Ag.refl _ _).hp b none a.1)),trivial⟩,⟨al (by simp[Nat.testBit]),al (by simp[Nat.testBit]),al (by simp[Nat.testBit]),al (by simp[Nat.testBit]),al (by simp[Nat.testBit]),cT (lt ((Ag.refl _ _).hp b none a.1)) (lt ((Ag.refl _ _).hp b none a.1)),cT (lt ((Ag.refl _ _).hp b none a.1)) (lt ((Ag.refl _ _).hp b none a.1)),trivial⟩,⟨al (by simp[Nat.testBit]),al (by simp[Nat.testBit]),al (by simp[Nat.testBit]),al (by simp[Nat.testBit]),al (by simp[Nat.testBit]),al (by simp[Nat.testBit]),al (by simp[Nat.testBit]),trivial⟩,trivial⟩) ?_
  refine aj ⟨_,jI rfl (cH a8 rfl _),?_⟩;have hl:Al ts=fm [if (!decide (((fs ts (ts.length - 1):Nat):Int)=0)) then 9 else 0,if decide (dZ ts (ts.length - 1)=19) then 11 else 0,if decide (60<rN ts) then 24 else 0]:=by unfold Al;simp only[cC];congr 1;simp
  have:=R M n7 (((u.trans a).trans e7).Ξ b8 (by omega));rw[hfe,hl]at this;exact this
 ·rintro ex h' n' nG W ⟨rfl,pO,g1,g,q⟩ r;have z:=g1.1;have zz:=(L.ext g1).1;refine⟨_,jI rfl (cH (show nG n1=_ by rw[r _ (by omega)];exact q) U _),?_⟩;exact R _ _ (((w.trans g1).Ξ g (by omega)).Ξ r (by omega))
end
end Go.Ev.X
namespace Go.Ev.X
open Go Go.Ev
def ak2(x:Nd):ma 0 x=x:=by
 unfold ma;have:x.kids.map (λk=>k - ((0:Nat):Int))=x.kids:=by
  have:(λk:Int=>k - ((0:Nat):Int))=id:=by funext k;simp
  rw[this,List.map_id]
 cases x;simp_all
def Ll{ts:List Nd}(h0:0<ts.length)(h:fs ts (ts.length - 1)=0):part ts (ts.length - 1)=ts:=by
 unfold part;rw[h,ig,show ts.length - 1+1 - 0=ts.length by omega,fO];have:ma 0=id:=by funext x;exact ak2 x
 rw[this,List.map_id]
def ak3{f:List Nd->List Nd->Bool}{g:Int->Int->Bool}{P P':Int->List Nd}:∀{A B:List Int},(∀p∈A,∀q∈B,f (P p) (P' q)=g p q)->nU f (A.map P) (B.map P')=pF g A B:=by
 intro A
 induction A with
 | nil=>intro B _;cases B<;>rfl
 | cons a A ih=>
  intro B h;cases B with
  | nil=>rfl
  | cons b B=>
   simp only[eY,nU,pF];rw[h a (by simp) b (by simp),ih λp hp q c=>h p (by simp[hp]) q (by simp[c])]
def Ln{ts:List Nd}(r:∀j,j<ts.length->ord ts j=true){i:Nat}(hi:i<ts.length):∀k∈bO ts i,0<=k/\k.toNat<i/\fs ts i<=fs ts k.toNat:=by
 intro k c;have a:=r i hi;have d:=uL a;have b:=a;unfold ord at b;have:=(wy b).2 k (by simpa using c);have:=wy b;have e:=jL a k c;refine⟨by omega,by omega,?_⟩;have:jN ts (bO ts i).reverse i<=fs ts k.toNat:=by omega
 omega
def Ul{ts:List Nd}(r:∀j,j<ts.length->ord ts j=true){i:Nat}(hi:i<ts.length):parts (part ts i)=(bO ts i).map λk=>part ts k.toNat:=by
 have hl:=hJ hi;have hle:=fw ts i;unfold parts;have hj:(part ts i).length - 1<(part ts i).length:=by omega
 rw[FZ hi hj,show fs ts i+((part ts i).length - 1)=i by omega,List.map_map];apply List.map_congr_left;intro k a;obtain⟨h1,h2,c⟩:=Ln r hi k a;have d:=fw ts k.toNat;have b:(k - (fs ts i:Int)).toNat<(part ts i).length:=by omega
 show part (part ts i) (k - (fs ts i:Int)).toNat=part ts k.toNat;rw[aiE hi r b];congr 1;omega
def Um{ts:List Nd}{i:Nat}(hi:i<ts.length):(part ts i)[(part ts i).length - 1]?=some (ma (fs ts i) ts[i]):=by
 have hl:=hJ hi;have hle:=fw ts i;have hj:(part ts i).length - 1<(part ts i).length:=by omega
 rw[aX hj,nT hi hj];have e:fs ts i+((part ts i).length - 1)=i:=by omega
 simp only[e]
def ak4{ts us:List Nd}(r:∀j,j<ts.length->ord ts j=true)(r':∀j,j<us.length->ord us j=true):∀(N i:Nat),i<N->∀(k f1 f2:Nat) (l:List (S×S)),i<ts.length->k<us.length->(part ts i).length<=f1->i<f2->fX f1 (part ts i) (part us k) l=rQ ts us f2 i k l:=by
 intro N
 induction N with
 | zero=>intro i hi;omega
 | succ N ih=>
  intro i e k f1 f2 l hi a h1 h2;have hl:=hJ hi;have hle:=fw ts i;obtain⟨f1,rfl⟩:∃f,f1=f+1:=⟨f1 - 1,by omega⟩;obtain⟨f2,rfl⟩:∃f,f2=f+1:=⟨f2 - 1,by omega⟩;rw[Tu hi a];unfold fX;rw[Um hi,Um a];simp only;have b:iU (ma (fs ts i) ts[i]) (ma (fs us k) us[k])=iU ts[i] us[k]:=by unfold iU ma;simp
  have c:nU (λp q=>fX f1 p q (l++dI ts[i].vars us[k].vars)) (parts (part ts i)) (parts (part us k))=pF (λp q=>rQ ts us f2 p.toNat q.toNat (l++dI ts[i].vars us[k].vars)) ts[i].kids us[k].kids:=by rw[Ul r hi,Ul r' a,←jW hi,←jW a];apply ak3;intro p hp q d;obtain⟨g,h,m⟩:=Ln r hi p hp;obtain⟨n,o,s⟩:=Ln r' a q d;have t:=fw ts p.toNat;have u:=hJ (ts:=ts) (i:=p.toNat) (by omega);exact ih p.toNat (by omega) q.toNat f1 f2 _ (by omega) (by omega) (by omega) (by omega)
  rw[b];show(if iU ts[i] us[k]=true then false else match (if ts[i].op=3 then eC ts[i].name us[k].name l.reverse else none) with
   | some r=>r
   | none=>if ts[i].name=us[k].name then (if hK ts[i].vars us[k].vars then nU (λp q=>fX f1 p q (l++dI ts[i].vars us[k].vars)) (parts (part ts i)) (parts (part us k)) else false) else false)=_
  rw[c];generalize (if ts[i].op=3 then eC ts[i].name us[k].name l.reverse else none)=z
  cases z<;>rfl
def ak5{ts:List Nd}:∀(m i:Nat),mE ts m i=0->∀k,k<m->ki ts (i+k)=0:=by
 intro m
 induction m with
 | zero=>intro i _ k a;omega
 | succ m ih=>
  intro i h k a;rw[mE]at h;by_cases h0:ki ts i=0
  ·rw[Γ (by simp[h0])]at h;cases k with
   | zero=>exact h0
   | succ k=>have:=ih (i+1) h k (by omega);rw[show i+(k+1)=i+1+k by omega];exact this
  ·rw[ab h0]at h;exact absurd h h0
def yw{ts:List Nd}(hb:Bd ts)(h:cX ts=0):Rt ts/\ts.length<=2000/\fs ts (ts.length - 1)=0:=by
 unfold cX at h;by_cases h1:ts.length=0
 ·rw[ab h1]at h;exact absurd h (by decide)
 rw[Γ h1]at h;by_cases h2:2000<ts.length
 ·rw[ab h2]at h;exact absurd h (by decide)
 rw[Γ h2]at h;by_cases a:mE ts ts.length 0=0
 ·rw[Γ (by simp[a])]at h;refine⟨⟨hb,by omega,λj hj=>Li hj (by have:=ak5 _ _ a j hj;rwa [eV]at this)⟩,by omega,?_⟩;unfold Al at h;rw[Kz]at h;by_cases b:fs ts (ts.length - 1)=0
  ·exact b
  ·rw[Γ b,ab (by decide)]at h;exact absurd h (by decide)
 ·rw[ab a]at h;exact absurd h a
def ak6{a b:List Nd}(f:Bd a)(hb:Bd b)(g:cX a=0)(h:cX b=0):fX a.length a b []=rQ a b a.length (a.length - 1) (b.length - 1) []:=by obtain⟨c,k,d⟩:=yw f g;obtain⟨e,lb,i⟩:=yw hb h;have h0:=c.pos;have j:=e.pos;have:=ak4 c.ord e.ord a.length (a.length - 1) (by omega) (b.length - 1) a.length a.length [] (by omega) (by omega) (by rw[Ll h0 d];exact ξ _) (by omega);rw[Ll h0 d,Ll j i]at this;exact this
end Go.Ev.X
namespace Go.Ev.X
open Go Go.Ev
attribute [local irreducible] WC WO WD SO μ
section
variable {C:Nat->Option aE}{h:Hf}{n:K}{Q:V->Hf->K->Prop}
def w11(c:Cd C){ta tb:V}{a b:List Nd}(j:Bd a)(k:Bd b)(m:Gl h n)(o:bK h n ta a)(p:bK h n tb b)
 (q:∀h' n' r e,Ext h n h' n'->e=fm [cX a,cX b]->(e=0->r=rQ a b a.length (a.length - 1) (b.length - 1) [])->(e≠0->r=false)->Q (.u [.b r,.i .i64 e]) h' n'):μ C (.f 11 [] []) [ta,tb] h n Q:=by
 refine μ.go c.f11 U ?_;refine ε<|γ U<|γ U<|δ ?_;refine φ<|ε<|γ U<|ah U U<|w8 c j m o <| λh1 n1 g=>γ U<|ah U U<|w8 c k (m.ext g) (p.ext g) <| λh2 G y=>jJ U <| λH I J z A=>ah U U<|A3 c.f36 (l:=[cX a,cX b]) (κ.whole (len:=2) (by omega) z rfl) (by simp)<|γ U<|δ ?_;have d:=(g.trans y).trans A;generalize he:fm [cX a,cX b]=e at*;refine ε<|γ U<|fJ U U<|δ ?_;by_cases h0:e=0
 ·subst h0;refine az U U<|ay ?_;rw[FT]at he;have s:cX a=0:=by
   by_cases h:cX a=0
   ·exact h
   ·rw[ab h]at he;exact he
  have B:cX b=0:=by rw[Γ (by simp[s])]at he;exact he
  obtain⟨t,L,_⟩:=yw j s;obtain⟨v,lb,_⟩:=yw k B;have w:=o.ext d;have x:=p.ext d;obtain⟨M,D⟩:=w.sl;obtain⟨N,E⟩:=x.sl;have O:=t.pos;have P:=v.pos;refine ε<|γ U<|γ U<|γ U<|aJ U D<|py U U ((show(a.length:Int) - 1=((a.length - 1:Nat):Int) by omega)) ⟨by omega,by omega⟩<|γ U<|aJ U E<|py U U ((show(b.length:Int) - 1=((b.length - 1:Nat):Int) by omega)) ⟨by omega,by omega⟩<|ah U U<|w48 c t v a.length (a.length - 1) (b.length - 1) _ _ _ [] _ _ _ (by omega) (by omega) (by omega) w x (κ.ns _ _ _) (by simp;omega) <| λR S F=>γ U<|γ U<|δ ?_;exact aj ⟨_,rfl,q _ _ _ _ (d.trans F) U (λ_=>rfl) (λh=>absurd rfl h)⟩
 ·refine ax U (by simp[h0]) ?_;refine ε<|γ U<|γ U<|γ U<|δ ?_;exact aj ⟨_,rfl,q _ _ _ _ d rfl (λh=>absurd h h0) (λ_=>rfl)⟩
def uR{ts:List Nd}(h:je ts=true):Bd ts:=by
 simp only[je,aD,kX]at h;obtain⟨h1,h2⟩:=h;have a:∀i (hi:i<ts.length),nW ts[i]=true:=λi hi=>h2 _ (bL hi);have hl:ts.length<100000:=by
  by_cases b:120<ts.length
  ·have:ts.length=2001:=by simpa[b]using h1
   omega
  ·omega
 have hs:∀i (hi:i<ts.length),ts[i].name.length<=200/\ts[i].kids.length<=12/\ts[i].vars.length<=8/\∀v∈ts[i].vars,v.1.length<=200:=λi hi=>by have:=a i hi;simp only[nW,CI,aD,qd,gT,cC,kX]at this;obtain⟨g1,_,_,_,d,c,e⟩:=this;refine⟨by omega,by omega,by omega,λv hv=>?_⟩;have:=c v hv;simp only[tz,aD,qd,gT]at this;omega
 exact⟨hl,λi hi=>by have:=(hs i hi).2.1;omega,λi hi=>by have:=(hs i hi).1;omega,λi hi=>by have:=(hs i hi).2.2.1;omega,λi hi v hv=>by have:=(hs i hi).2.2.2 v hv;omega⟩
end
end Go.Ev.X
