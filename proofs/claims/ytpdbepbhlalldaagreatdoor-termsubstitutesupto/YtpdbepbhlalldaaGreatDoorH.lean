/- A part of the proof. -/
import Derived.Test.YtpdbepbhlalldaaGreatDoorG
import Derived.Test.YtpdbepbhlalldaaGreatDoorD
set_option linter.all false
namespace Go.Ev.X
open Go Go.Ev
attribute [local irreducible] WC WO WD SO ν
section
variable {C:Nat->Option aI}{h:Hf}{n:K}{Q:V->Hf->K->Prop}
def agU{l:List Int}{m:Nat}(hm:m<l.length):(l.take (m+1)).reverse=l[m]::(l.take m).reverse:=by rw[fL hm,List.reverse_append];rfl
def agV{t l:V}{ts:List Nd}{F:List Nat}{i:Nat}{vv kv:V}{cs:List V}(hs:κ h n 5 t ts.length cs)(hlen:ts.length<1000000)(hi:i<ts.length)(c:py h n t.blk (t.off+i*5) ts[i] vv kv)(o:aF h n .i64 l F)(v:F.length=ts.length)(q:∀j,F.getD j 0<=j)(w:ts[i].kids.length<1000000):
 ∀(m:Nat) (next:Nat),m<=ts[i].kids.length->next<=i->Q (.b (eh (λj=>F.getD j 0) (ts[i].kids.take m).reverse next)) h n->WC C abV [(k0,t),(k1,l),(k2,iN i),(k7,iN next),(k8,.i .i64 ((m:Int) - 1))] h n (blk 0 (sq C abW (fq [.t k6] Q))):=by
 intro m
 induction m with
 | zero=>
  intro next hm r a;refine ax ?_;refine θ<|ε<|γ U<|dj U U<|δ ?_;refine ae U (by simp<;>omega)<|aJ ?_;refine ε<|γ U<|δ (Γ ⟨_,rfl,by simpa[eh]using a⟩)
 | succ m ih=>
  intro next hm r a;have d:m<ts[i].kids.length:=by omega
  have e:((m+1:Nat):Int) - 1=(m:Nat):=by omega
  rw[e];rw[agU d,eh]at a;have f:=c.kids.get d 1;generalize x:ts[i].kids[m]=g at*;refine ax ?_;refine θ<|ε<|γ U<|dj U U<|δ ?_;refine ah U (by simp<;>omega)<|Ω ?_;refine θ<|aj ?_;by_cases h0:g<0
  ·refine θ<|ε<|γ U<|γ U<|aB U U hs hi<|σ U<|ξ U (c.ks _)<|γ U<|aB U U c.kids d<|ξ U f<|ay U U<|γ U<|μ U (by simp[h0])<|μ U (by simp[h0])<|μ U (by simp[h0])<|μ U (by simp[h0])<|μ U (by simp[h0])<|μ U (by simp[h0])<|μ U (by simp[h0])<|μ U (by simp[h0])<|μ U (by simp[h0])<|μ U (by simp[h0])<|μ U (by simp[h0])<|aU U (by simp[h0]) U<|δ ?_;refine ah U U ?_;rw[ao (Or.inl h0)]at a;refine ε<|γ U<|δ (Γ ⟨_,rfl,a⟩)
  ·refine θ<|ε<|γ U<|γ U<|aB U U hs hi<|σ U<|ξ U (c.ks _)<|γ U<|aB U U c.kids d<|ξ U f<|ay U U<|γ U<|ζ U (by simp[h0])<|γ U<|ζ U (by simp[h0])<|γ U<|ζ U (by simp[h0])<|aB U U hs hi<|ζ U (by simp[h0])<|σ U<|ζ U (by simp[h0])<|ξ U (c.ks _)<|ζ U (by simp[h0])<|γ U<|ζ U (by simp[h0])<|aB U U c.kids d<|ζ U (by simp[h0])<|ξ U f<|ζ U (by simp[h0])<|γ U<|ζ U (by simp[h0])<|gG U U ⟨by omega,by omega⟩<|ζ U (by simp[h0])<|dR U U<|aL U (by simp[h0]) U<|δ ?_;by_cases h1:g=(next:Int) - 1
   ·refine ae U (by simp[h1])<|Ω ?_;rw[Θ (by omega)]at a;obtain⟨k',s⟩:∃k':Nat,g=(k':Int):=⟨g.toNat,by omega⟩;have p:=f;rw[s]at a p;have k:k'<F.length:=by omega
    have u:=o.get k 1;have hle:=q k';rw[gW k]at hle;rw[show((k':Nat):Int).toNat=k' from rfl]at a;simp only[gW k]at a;refine aA<|γ U<|γ U<|γ U<|aB U U hs hi<|σ U<|ξ U (c.ks _)<|γ U<|aB U U c.kids d<|ξ U p<|aB U U o k<|ξ U u<|γ U<|δ ?_;refine aA<|γ U<|gG U U ⟨by omega,by omega⟩<|γ U<|δ ?_;exact χ (ih F[k'] (by omega) (by omega) a) (ρ.rf U)
   ·refine ah U (by simp[h1]) ?_;rw[ao (Or.inr h1)]at a;refine ε<|γ U<|δ (Γ ⟨_,rfl,a⟩)
def JK(d:Cd C){t c:V}{ts:List Nd}{F:List Nat}{i:Nat}(ht:aZ h n t ts)(hlen:ts.length<1000000)(hi:i<ts.length)(e:aF h n .i64 c F)(g:F.length=ts.length)(k:∀j,F.getD j 0<=j)(l:ts[i].kids.length<1000000)
 (m:Q (.b (eh (λj=>F.getD j 0) ts[i].kids.reverse i)) h n):ν C (.f 109 [] []) [t,c,iN i] h n Q:=by
 obtain⟨cs,hs⟩:=ht.sl;obtain⟨vv,kv,a⟩:=ht.node hi;refine ν.go d.f109 U ?_;refine ε<|γ U<|δ ?_;refine ε<|γ U<|γ U<|δ ?_;refine θ<|ε<|γ U<|γ U<|aB U U hs hi<|σ U<|ξ U (a.ks _)<|al U a.kids<|gG U U ⟨by omega,by omega⟩<|γ U<|δ ?_;exact aj<|χ (agV hs hlen hi a e g k l ts[i].kids.length i (φ _) (φ _) (by rw[eN];exact m)) (ρ.rf U)
def fz(ts:List Nd)(i:Nat):List Nat:=fl ts i++List.replicate (ts.length - i) 0
def agX{ts:List Nd}{i:Nat}(hi:i<=ts.length):(fz ts i).length=ts.length:=by simp[fz,kY];omega
def JL{ts:List Nd}{i j:Nat}(hj:j<i):(fz ts i).getD j 0=(fl ts i).getD j 0:=by rw[fz,dH,qW (by rw[kY];exact hj),←dH]
def JM{ts:List Nd}{i x:Nat}(hi:i<ts.length)(a:x=qt ts (fl ts i) i):(fz ts i).set i x=fz ts (i+1):=by
 unfold fz;rw[List.set_append_right _ _ (by rw[kY];exact φ _),kY,lL,fl];have:ts.length - i=(ts.length - (i+1))+1:=by omega
 rw[this,ub,List.set_cons_zero,pO,a];rfl
def agY(ts:List Nd)(i j:Nat):(fz ts i).getD j 0<=j:=by
 by_cases hj:j<i
 ·rw[JL hj];exact EJ ts
 ·rw[fz,dH,tU (by rw[kY];omega),List.getElem?_replicate];split<;>simp
def agZ(G:Cd C){t:V}{ts:List Nd}{bo:K}{h0:Hf}{n0:K}(ht:aZ h0 n0 t ts)(hlen:ts.length<1000000)(H:∀i (hi:i<ts.length),ts[i].kids.length<1000000)(u:n0.num<=bo.num){Q1:Ex->Env->Hf->K->Prop}(O:n0.num<=n.num)
 (I:∀h E',Ext h0 n0 h n->Cl h n bo (nC .i64 (fl ts ts.length)) 3->ρ [(k3,.sl bo 0 ts.length ts.length)] E'->Q1 .normal E' h n):
 ∀(m i:Nat) (h:Hf),ts.length - i=m->i<=ts.length->Ext h0 n0 h n->Cl h n bo (nC .i64 (fz ts i)) 3->WC C PH [(k0,t),(k3,.sl bo 0 ts.length ts.length),(k4,iN i)] h n (blk 0 Q1):=by
 intro m
 induction m with
 | zero=>
  intro i h hm hi he d;have:i=ts.length:=by omega
  subst this;obtain⟨cs,hs⟩:=(ht.ext he).sl;refine ax ?_;refine θ<|ε<|γ U<|γ U<|al U hs<|ay U U<|δ ?_;refine ae U (by simp)<|aJ (I h _ he ?_ (ρ.rf U));have:fz ts ts.length=fl ts ts.length:=by simp[fz]
  rw[←this];exact d
 | succ m ih=>
  intro i h hm hi he d;have b:i<ts.length:=by omega
  have v:=ht.ext he;obtain⟨cs,hs⟩:=v.sl;obtain⟨vv,kv,P⟩:=v.node b;have w:=agX (ts:=ts) (i:=i) (by omega);have io:=d.oJ w;have x:i<(fz ts i).length:=by omega
  refine ax ?_;refine θ<|ε<|γ U<|γ U<|al U hs<|ay U U<|δ ?_;refine ah U (by simp<;>omega)<|Ω ?_;refine θ<|aj<|ε<|γ U<|γ U<|γ U<|aB U U io x<|aH U U d.2 (uy x _ (by simp[V.off])) <| λh1 J b1=>δ ?_;have g:Ext h0 n0 h1 n:=he.ab b1 u;have q:=ht.ext g;obtain⟨R,r⟩:=q.sl;obtain⟨S,T,c⟩:=q.node b;have l:Cl h1 n bo (nC .i64 ((fz ts i).set i i)) 3:=⟨d.1,J⟩;have y:((fz ts i).set i i).length=ts.length:=by rw[gZ];exact w
  have o:=l.oJ y;have L:=H i b;have f:=jj b;have next:∀h2,Ext h0 n0 h2 n->Cl h2 n bo (nC .i64 (fz ts (i+1))) 3->WC C abU [(k0,t),(k3,.sl bo 0 ts.length ts.length),(k4,iN i)] h2 n (sq C (.loop PI) (blk 0 Q1)):=by intro h2 M c2;refine aA<|γ U<|aX U U ⟨by omega,by omega⟩<|γ U<|δ ?_;exact χ (ih (i+1) h2 (by omega) (by omega) M c2) (ρ.rf U)
  cases a:ts[i].kids with
  | nil=>
   have e:qt ts (fl ts i) i=i:=by unfold qt;rw[f,a]
   refine ε<|γ U<|γ U<|aB U U r b<|σ U<|ξ U (c.ks _)<|al U c.kids<|bC U U<|γ U<|μ U (by simp[a])<|μ U (by simp[a])<|μ U (by simp[a])<|μ U (by simp[a])<|aL U (by simp[a]) U<|δ ?_;refine ae U U<|Ω ?_;exact χ (next h1 g (by rw[←JM b e.symm];exact l)) (ρ.rf U)
  | cons k ks=>
   have z:∀j,((fz ts i).set i i).getD j 0<=j:=by
    intro j;rw[uJ];split
    ·omega
    ·exact agY ts i j
   have N:eh (λj=>((fz ts i).set i i).getD j 0) ts[i].kids.reverse i=ord ts i:=by rw[←EL ts i (φ i),f];refine RE λj hj=>⟨?_,by have:=z j;omega⟩;show((fz ts i).set i i).getD j 0=_;rw[uJ,Θ (by omega),JL (by omega)]
   have e:qt ts (fl ts i) i=if ord ts i then (fl ts i).getD k.toNat 0 else i:=by unfold qt;rw[f,a];simp only;have:=EL ts i (φ i);rw[f,a]at this;rw[this]
   refine ε<|γ U<|γ U<|aB U U r b<|σ U<|ξ U (c.ks _)<|al U c.kids<|bC U U<|γ U<|ζ U (by simp[a])<|γ U<|ζ U (by simp[a])<|γ U<|ζ U (by simp[a])<|γ U<|ζ U (by simp[a])<|ψ U U<|JK G q hlen b (o.up (φ _)) y z L<|aU U (by simp[a]) U<|δ ?_;rw[N];refine cm U (λp=>?_) (λp=>Ω ?_)
   ·rw[p]at e;have W:=oI p k (by rw[f,a];simp);obtain⟨k',rfl⟩:∃k':Nat,k=(k':Int):=⟨k.toNat,by omega⟩;have A:0<ts[i].kids.length:=by rw[a];simp
    have B:=c.kids.get A 1;simp only[a,nz]at B;have s:k'<((fz ts i).set i i).length:=by omega
    have D:=o.get s 1;have hv:((fz ts i).set i i)[k']=qt ts (fl ts i) i:=by rw[e,ao rfl,←gW s,uJ,Θ (by omega),JL (by omega)];rfl
    rw[hv]at D;have E:i<((fz ts i).set i i).length:=by omega
    refine aA<|γ U<|γ U<|γ U<|γ U<|γ U<|aB U U r b<|σ U<|ξ U (c.ks _)<|aB U U c.kids A<|ξ U B<|aB U U o s<|ξ U D<|aB U U o E<|aH U U l.2 (uy E _ (by simp[V.off])) <| λh2 F b2=>δ ?_;rw[List.set_set,JM b rfl]at F;exact χ (next h2 (g.ab b2 u) ⟨d.1,F⟩) (ρ.rf U)
   ·rw[p]at e;exact χ (next h1 g (by rw[←JM b (by rw[e])];exact l)) (ρ.rf U)
def R8(a:Cd C){t:V}{ts:List Nd}(ht:aZ h n t ts)(hlen:ts.length<1000000)(d:∀i (hi:i<ts.length),ts[i].kids.length<1000000)
 (e:∀v' h' n',Ext h n h' n'->aF h' n' .i64 v' (fl ts ts.length)->Q v' h' n'):ν C (.f 107 [] []) [t] h n Q:=by
 refine ν.go a.f107 U ?_;obtain⟨cs,hs⟩:=ht.sl;refine ε<|γ U<|δ ?_;refine ε<|γ U<|al U hs<|pA U U (by omega) (by omega) <| λh1 n1 l b c=>γ U<|δ ?_;rw[wA]at b;have g:Cl h1 n1 n (nC .i64 (fz ts 0)) 3:=⟨by omega,by rw[b];simp[fz,fl]⟩;refine θ<|ε<|γ U<|δ ?_;refine aj<|χ (agZ a ht hlen d (φ _) c.1 ?_ _ 0 h1 rfl (by omega) c g) (ρ.rf U);intro h2 E2 j c2 k;refine bS k ?_;refine ε<|γ U<|γ U<|δ (Γ ⟨_,rfl,e _ h2 n1 j (c2.oJ (kY ts _))⟩)
end
section
variable {C:Nat->Option aI}{h:Hf}{n:K}{Q:V->Hf->K->Prop}
section
variable {h0:Hf}{n0 bo:K}{t:V}{ts:List Nd}
def ag1{i:Nat}(hlen:ts.length<1000000)(hi:i<ts.length)(ht:aZ h n t ts)(v:ts[i].kids.length<1000000)(l:∀k∈ts[i].kids,k<i/\0<=k)(o:Cl h n bo (cO .i64 (dz ts i)) 3){Q1:Ex->Env->Hf->K->Prop}
 (p:∀E',ρ [(k0,t),(k3,.sl bo 0 ts.length ts.length),(k4,iN i),(k5,.i .i64 (sW (dl ts i) ts[i].kids 0))] E'->Q1 .normal E' h n):
 ∀(m j:Nat) (d:Int),ts[i].kids.length - j=m->j<=ts[i].kids.length->sW (dl ts i) (ts[i].kids.drop j) d=sW (dl ts i) ts[i].kids 0->0<=d->d<=i->WC C acr [(k0,t),(k3,.sl bo 0 ts.length ts.length),(k4,iN i),(k5,.i .i64 d),(k6,iN j)] h n (blk 2 Q1):=by
 intro m;obtain⟨cs,hs⟩:=ht.sl;obtain⟨vv,kv,a⟩:=ht.node hi
 induction m with
 | zero=>
  intro j d hm hj b h0 h1;have:j=ts[i].kids.length:=by omega
  subst this;refine ax ?_;refine θ<|ε<|γ U<|γ U<|γ U<|aB U U hs hi<|σ U<|ξ U (a.ks _)<|al U a.kids<|ay U U<|δ ?_;rw[jw]at b;refine ae U (by simp)<|aJ (p _ ⟨rfl,rfl,rfl,?_,trivial⟩);rw[←b];rfl
 | succ m ih=>
  intro j d hm hj b h0 h1;have c:j<ts[i].kids.length:=by omega
  have f:=a.kids.get c 1;have q:=l ts[i].kids[j] (bK _);rw[eo c]at b;obtain⟨k',r⟩:∃k':Nat,ts[i].kids[j]=(k':Int):=⟨ts[i].kids[j].toNat,by omega⟩;rw[r]at f q b;have s:(dz ts i).length=ts.length:=wH (by omega);have io:=o.wI s;have e:k'<(dz ts i).length:=by omega
  have g:=io.get e 1;have u:(dz ts i)[k']=(dl ts i).getD k' 0:=by rw[←Bv e,Jp (by omega)]
  rw[u]at g;have hb:=Jo ts i k';refine ax ?_;refine θ<|ε<|γ U<|γ U<|γ U<|aB U U hs hi<|σ U<|ξ U (a.ks _)<|al U a.kids<|ay U U<|δ ?_;refine ah U (by simp<;>omega)<|Ω ?_;refine θ<|aj<|aA<|γ U<|γ U<|γ U<|γ U<|aB U U hs hi<|σ U<|ξ U (a.ks _)<|γ U<|aB U U a.kids c<|ξ U f<|aB U U io e<|ξ U g<|HU U U<|γ U<|δ ?_;refine aA<|γ U<|aX U U ⟨by omega,by omega⟩<|γ U<|δ ?_;refine χ (ih (j+1) (max d ((dl ts i).getD k' 0)) (by omega) (by omega) ?_ (by omega) (by omega)) (ρ.rf U);rw[←b];rfl
def ag2(ht:aZ h0 n0 t ts)(hlen:ts.length<1000000)(g:∀i (hi:i<ts.length),ts[i].kids.length<1000000)(o:∀j (hj:j<ts.length),∀k∈ts[j].kids,k<j/\0<=k)(p:n0.num<=bo.num){Q1:Ex->Env->Hf->K->Prop}
 (q:∀h E',Ext h0 n0 h n->Cl h n bo (cO .i64 (dl ts ts.length)) 3->ρ [(k3,.sl bo 0 ts.length ts.length)] E'->Q1 .normal E' h n):
 ∀(m i:Nat) (h:Hf),ts.length - i=m->i<=ts.length->Ext h0 n0 h n->Cl h n bo (cO .i64 (dz ts i)) 3->WC C P5 [(k0,t),(k3,.sl bo 0 ts.length ts.length),(k4,iN i)] h n (blk 0 Q1):=by
 intro m
 induction m with
 | zero=>
  intro i h hm hi he a;have:i=ts.length:=by omega
  subst this;obtain⟨cs,hs⟩:=(ht.ext he).sl;refine ax ?_;refine θ<|ε<|γ U<|γ U<|al U hs<|ay U U<|δ ?_;refine ae U (by simp)<|aJ (q h _ he ?_ (ρ.rf U));have:dz ts ts.length=dl ts ts.length:=by simp[dz]
  rw[←this];exact a
 | succ m ih=>
  intro i h hm hi he a;have c:i<ts.length:=by omega
  have d:=ht.ext he;obtain⟨cs,hs⟩:=d.sl;refine ax ?_;refine θ<|ε<|γ U<|γ U<|al U hs<|ay U U<|δ ?_;refine ah U (by simp<;>omega)<|Ω ?_;refine θ<|aj<|ε<|γ U<|δ ?_;refine θ<|ε<|γ U<|δ ?_;refine aj<|χ (ag1 (i:=i) hlen c d (g i c) (o i c) a ?_ _ 0 0 rfl (by omega) (by rw[gb]) (by omega) (by omega)) (ρ.rf U);intro E1 s1;refine bS s1 ?_;have r:(dz ts i).length=ts.length:=wH (by omega);have io:=a.wI r;have e:i<(dz ts i).length:=by omega
  have hb:=RJ (l:=dl ts i) (b:=i) ts[i].kids 0 (λk=>(Jo ts i k).1) (by omega);refine aA<|γ U<|γ U<|γ U<|aX U U ⟨by omega,by omega⟩<|aB U U io e<|aH U U a.2 (sX e _ (by simp[V.off])) <| λh1 f b1=>δ ?_;rw[show sW (dl ts i) ts[i].kids 0=sW (dl ts i) (fT ts i) 0 by rw[jj c],RK c]at f;refine aA<|γ U<|aX U U ⟨by omega,by omega⟩<|γ U<|δ ?_;exact χ (ih (i+1) h1 (by omega) (by omega) (he.ab b1 p) ⟨a.1,f⟩) (ρ.rf U)
end
def R9(b:Cd C){t:V}{ts:List Nd}(ht:aZ h n t ts)(hlen:ts.length<1000000)(c:∀i (hi:i<ts.length),ts[i].kids.length<1000000)(d:∀j (hj:j<ts.length),∀k∈ts[j].kids,k<j/\0<=k)
 (e:∀v' h' n',Ext h n h' n'->da h' n' .i64 v' (dl ts ts.length)->Q v' h' n'):ν C (.f 114 [] []) [t] h n Q:=by
 refine ν.go b.f114 U ?_;obtain⟨cs,hs⟩:=ht.sl;refine ε<|γ U<|δ ?_;refine ε<|γ U<|al U hs<|pA U U (by omega) (by omega) <| λh1 n1 p a g=>γ U<|δ ?_;rw[Jq]at a;have l:Cl h1 n1 n (cO .i64 (dz ts 0)) 3:=⟨by omega,by rw[a];simp[dz,dl]⟩;refine θ<|ε<|γ U<|δ ?_;refine aj<|χ (ag2 ht hlen c d (φ _) ?_ _ 0 h1 rfl (by omega) g l) (ρ.rf U);intro h2 E2 m c2 o;refine bS o ?_;refine ε<|γ U<|γ U<|δ (Γ ⟨_,rfl,e _ h2 n1 m (c2.wI (lV ts _))⟩)
def ag3(a:Cd C){t:V}{ts:List Nd}(ht:aZ h n t ts)(hlen:ts.length<1000000)(b:∀i (hi:i<ts.length),ts[i].kids.length<1000000)(c:∀j,j<ts.length->ord ts j=true)
 (d:∀v' h' n',Ext h n h' n'->da h' n' .i64 v' (dl ts ts.length)->Q v' h' n'):ν C (.f 114 [] []) [t] h n Q:=R9 a ht hlen b (λj hj=>by have:=oI (c j hj);rw[jj hj]at this;exact this) d
def ag4(i:Cd C){t:V}{ts:List Nd}{x:Nd}{vv kv:V}{b:K}(ht:aZ h n t ts)(hlen:ts.length<1000000)(d:da h n .i64 kv x.kids)(w:x.kids.length<1000000)(m:∀k∈x.kids,0<=k/\k<ts.length)(hb:Cl h n b (bW x vv kv) 87):
 ∀(r j:Nat),x.kids.length - j=r->j<=x.kids.length->Q (.b (!lT ts x.op x.kids.length (x.kids.drop j) j)) h n->WC C PM [(k0,t),(k3,.p b 0),(k5,iN j)] h n (blk 0 (sq C PN (fq [.t k4] Q))):=by
 intro r
 induction r with
 | zero=>
  intro j hj o c;have:j=x.kids.length:=by omega
  subst this;refine ax ?_;refine θ<|ε<|γ U<|σ U<|ξ U (hb.ld U _)<|al U d<|ay U U<|δ ?_;refine ae U (by simp)<|aJ ?_;refine ε<|γ U<|δ (Γ ⟨_,rfl,by simpa[lT]using c⟩)
 | succ r ih=>
  intro j hj o c;have e:j<x.kids.length:=by omega
  have q:=m x.kids[j] (bK _);rw[eo e,lT]at c;obtain⟨k',s⟩:∃k':Nat,x.kids[j]=(k':Int):=⟨x.kids[j].toNat,by omega⟩;have l:=d.get e 1;rw[s]at q c l;have f:k'<ts.length:=by omega
  obtain⟨y,z,u⟩:=ht.node f;obtain⟨cs,hs⟩:=ht.sl;rw[show((k':Int)).toNat=k' from rfl,Br f]at c;have fin:∀(due:Bool),(if x.op=17\/x.op=18 then decide (ts[k'].op=19)==decide ((j:Int)=(x.kids.length:Int) - 1) else decide (ts[k'].op=19))=!(decide (ts[k'].op=19)==due)->WC C abY [(k0,t),(k3,.p b 0),(k5,iN j),(k6,.b due)] h n (blk 1 (sq C abZ (sq C (.loop Ih) (blk 0 (sq C PN (fq [.t k4] Q)))))):=by
   intro due v;rw[v]at c;refine ε<|γ U<|σ U<|ξ U (hb.ld U _)<|γ U<|aB U U d e<|ξ U l<|aB U U hs f<|σ U<|ξ U (u.op _)<|aS U U<|γ U<|HS U U<|δ ?_;refine cm U (λg=>?_) (λg=>Ω ?_)
   ·rw[g]at c;refine ε<|γ U<|δ (Γ ⟨_,rfl,by simpa using c⟩)
   ·rw[g]at c;refine aA<|γ U<|aX U U ⟨by omega,by omega⟩<|γ U<|δ ?_;exact χ (ih (j+1) (by omega) (by omega) (by simpa using c)) (ρ.rf U)
  refine ax ?_;refine θ<|ε<|γ U<|σ U<|ξ U (hb.ld U _)<|al U d<|ay U U<|δ ?_;refine ah U (by simp<;>omega)<|Ω<|θ<|aj ?_;by_cases a:x.op=17\/x.op=18
  ·refine ε<|σ U<|ξ U (hb.ld U _)<|ψ U U<|JJ i<|γ U<|ζ U (by simp[a])<|γ U<|ζ U (by simp[a])<|σ U<|ζ U (by simp[a])<|ξ U (hb.ld U _)<|ζ U (by simp[a])<|al U d<|ζ U (by simp[a])<|gG U U ⟨by omega,by omega⟩<|ζ U (by simp[a])<|ay U U<|aU U (by simp[a]) U<|γ U<|δ ?_;refine χ (fin (decide ((j:Int)<(x.kids.length:Int) - 1)) ?_) (ρ.rf U);rw[ao a];have:decide ((j:Int)=(x.kids.length:Int) - 1)=!decide ((j:Int)<(x.kids.length:Int) - 1):=by
    by_cases h:(j:Int)<(x.kids.length:Int) - 1
    ·simp[h];omega
    ·simp[h];omega
   rw[this];cases decide (ts[k'].op=19)<;>cases decide ((j:Int)<(x.kids.length:Int) - 1)<;>rfl
  ·refine ε<|σ U<|ξ U (hb.ld U _)<|ψ U U<|JJ i<|γ U<|μ U (by simp[a])<|μ U (by simp[a])<|μ U (by simp[a])<|μ U (by simp[a])<|μ U (by simp[a])<|μ U (by simp[a])<|aL U (by simp[a]) U<|γ U<|δ ?_;refine χ (fin false ?_) (ρ.rf U);rw[Θ a];cases decide (ts[k'].op=19)<;>rfl
def ag6(d:Cd C){t:V}{ts:List Nd}{x:Nd}{vv kv:V}(ht:aZ h n t ts)(hlen:ts.length<1000000)(hv:vv.one=true)(e:da h n .i64 kv x.kids)(g:x.kids.length<1000000)(i:∀k∈x.kids,0<=k/\k<ts.length)
 (j:∀h' n',Ext h n h' n'->Q (.b (!lT ts x.op x.kids.length x.kids 0)) h' n'):ν C (.f 110 [] []) [t,.a (bW x vv kv)] h n Q:=by
 refine ν.go d.f110 U ?_;refine ε<|cR U U (jm x hv (κ.one e)) <| λh1 n1 m l c=>γ U<|δ ?_;refine θ<|ε<|γ U<|δ ?_;exact aj<|χ (ag4 d (ht.ext c) hlen (e.ext c) g i ⟨by omega,l⟩ _ 0 rfl (by omega) (j _ _ c)) (ρ.rf U)
def jn(x:Nd):Int:=
 if x.op=2 then (if isNumeral x.name then 0 else 6) else if x.op=3 then (if lf x.name then 0 else 6) else if x.op=4 then (if x.name=[] then 6 else 0) else (if x.name=[] then 0 else 6)
def ag7(j:Cd C){x:Nd}{vv kv:V}(hv:vv.one=true)(o:kv.one=true)(hl:x.name.length<1000000)(q:∀h' n',Ext h n h' n'->Q (.i .i64 (jn x)) h' n'):ν C (.f 111 [] []) [.a (bW x vv kv)] h n Q:=by
 refine ν.go j.f111 U ?_;refine ε<|cR U U (jm x hv o) <| λh1 n1 s m r=>γ U<|δ ?_;have lo:bj h1 false 1 (.p n (0+0))=some (.i .i64 x.op):=cE m rfl _;have k:bj h1 false 1 (.p n (0+2))=some (st x.name):=cE m rfl _;refine ε<|σ U<|ξ U k<|eC (b:=[]) U U<|γ U<|δ ?_;refine θ<|ε<|σ U<|ξ U lo<|δ ?_;have fin:∀(b:Bool) h2 c,Ext h1 n1 h2 c->jn x=(if b then 0 else 6)->WC C ab0 [(k3,.b b)] h2 c (fq [.t k2] Q):=by intro b h2 c l hb;have:=q h2 c (r.trans l);rw[hb]at this;refine ε<|γ U<|bZ U<|ψ U U<|lF j<|γ U<|δ (Γ ⟨_,rfl,by cases b<;>simpa using this⟩)
 refine aj<|ε<|aS U U<|γ U<|δ ?_;refine cm U (λd=>?_) (λd=>?_)
 ·simp only[aW]at d;refine aA<|σ U<|ξ U k<|ψ U U<|agQ j hl <| λh2 c l=>γ U<|δ ?_;exact χ (fin (isNumeral x.name) h2 c l (by simp[jn,d])) (ρ.rf U)
 simp only[cg]at d;refine ε<|aS U U<|γ U<|δ ?_;refine cm U (λe=>?_) (λe=>?_)
 ·simp only[aW]at e;refine aA<|σ U<|ξ U k<|ψ U U<|Wf j (by omega)<|γ U<|δ ?_;exact χ (fin (lf x.name) _ _ (Ext.refl _ _) (by simp[jn,e])) (ρ.rf U)
 simp only[cg]at e;refine ε<|aS U U<|γ U<|δ ?_;refine cm U (λg=>?_) (λg=>Ω ?_)
 ·simp only[aW]at g;refine aA<|σ U<|ξ U k<|rA (b:=[]) U U<|γ U<|δ ?_;refine χ (fin (!decide (x.name=[])) _ _ (Ext.refl _ _) ?_) (ρ.rf U);by_cases h:x.name=[]<;>simp[jn,g,h]
 simp only[cg]at g;refine χ (fin (decide (x.name=[])) _ _ (Ext.refl _ _) ?_) (ρ.rf U);by_cases h:x.name=[]<;>simp[jn,d,e,g,h]
end
section
variable {C:Nat->Option aI}{h:Hf}{n:K}{Q:V->Hf->K->Prop}
def uL(l:List (S×S)):Nat->Nat->Int
 | 0,_=>0
 | m+1,i=>match l[i]? with
  | none=>0
  | some v=>if lf v.1=false then 6 else if v.1∈(l.take i).map Prod.fst then 7 else uL l m (i+1)
def jo(x:Nd):Int:=
 if x.op=17\/x.op=18 then (if x.vars.length<1\/12<x.vars.length then 5 else uL x.vars x.vars.length 0) else if 0<x.vars.length then 5 else 0
def du.sub{h:Hf}{n0:K}{v:V}{l:List (S×S)}{i j:Nat}(a:κ h n0 2 v (j - i) (((fW l).drop (i*2)).take ((j - i)*2)))(hj:j<=l.length):du h n0 v ((l.drop i).take (j - i)):=by
 rw[O4]at a;unfold du;have:((l.drop i).take (j - i)).length=j - i:=by simp;omega
 rw[this];exact a
def ag8(e:Cd C){x:Nd}{vv kv:V}{b:K}(hv:du h n vv x.vars)(k:x.vars.length<1000)(f:∀v∈x.vars,v.1.length<10000000)(hb:Cl h n b (bW x vv kv) 87):
 ∀(m i:Nat),x.vars.length - i=m->i<=x.vars.length->Q (.i .i64 (uL x.vars m i)) h n->WC C acm [(k1,.p b 0),(k5,iN i)] h n (blk 0 (sq C acn (fq [.t k2] Q))):=by
 intro m;have lv:bj h false 1 (.p b (0+3))=some vv:=hb.ld U _
 induction m with
 | zero=>
  intro i hm hi a;have:i=x.vars.length:=by omega
  subst this;refine ax ?_;refine θ<|ε<|γ U<|σ U<|ξ U lv<|al U hv<|ay U U<|δ ?_;refine ae U (by simp)<|aJ ?_;refine ε<|γ U<|δ (Γ ⟨_,rfl,a⟩)
 | succ m ih=>
  intro i hm hi a;have c:i<x.vars.length:=by omega
  simp only[uL,df c]at a;have g:=f _ (bK c);refine ax ?_;refine θ<|ε<|γ U<|σ U<|ξ U lv<|al U hv<|ay U U<|δ ?_;refine ah U (by simp<;>omega)<|Ω ?_;refine θ<|aj<|θ<|ε<|σ U<|ξ U lv<|γ U<|aB U U hv c<|σ U<|ξ U (hv.name c _)<|ψ U U<|Wf e g<|bZ U<|ψ U U<|lF e<|γ U<|δ ?_;cases hp:lf x.vars[i].1 with
  | false=>
   rw[hp]at a;refine ε<|γ U<|dR U U<|δ ?_;refine ah U (by simp) ?_;refine ε<|γ U<|γ U<|δ (Γ ⟨_,rfl,by simpa using a⟩)
  | true=>
   rw[hp]at a;refine ε<|γ U<|dR U U<|δ ?_;refine ae U (by simp)<|Ω ?_;refine cX<|bG U<|aC U lv (hv.below (φ _)) (κ.cH hv)<|ak U<|A7 U hv U U (by omega) ((show i<=_ by omega)) <| λl j l3=>bG U<|aC U lv (hv.below (φ _)) (κ.cH hv)<|ak U<|cK U U hv c<|bG U<|aC U (hv.name c _) U (fg _ _)<|aY U U<|uK e (du.sub j (by omega)) (by simp<;>omega)<|yo U U<|bU (by simp[AG,jD,mn,Nat.testBit]) ?_;rw[Bu,gb,mF];refine cm U (λd=>?_) (λd=>Ω ?_)
   ·simp only[aW]at d;rw[Θ (by simp),ao d]at a;refine ε<|γ U<|δ (Γ ⟨_,rfl,a⟩)
   ·simp only[cg]at d;rw[Θ (by simp),Θ d]at a;refine aA<|γ U<|aX U U ⟨by omega,by omega⟩<|γ U<|δ ?_;exact χ (ih (i+1) (by omega) (by omega) a) (ρ.rf U)
def aha(e:Cd C){x:Nd}{vv kv:V}(hv:du h n vv x.vars)(j:kv.one=true)(k:x.vars.length<1000)(l:∀v∈x.vars,v.1.length<10000000)(c:∀h' n',Ext h n h' n'->Q (.i .i64 (jo x)) h' n'):ν C (.f 112 [] []) [.a (bW x vv kv)] h n Q:=by
 refine ν.go e.f112 U ?_;refine ε<|cR U U (jm x (κ.one hv) j) <| λh1 n1 o m g=>γ U<|δ ?_;have hb:Cl h1 n1 n (bW x vv kv) 87:=⟨by omega,m⟩;have lv:bj h1 false 1 (.p n (0+3))=some vv:=hb.ld U _;have lo:bj h1 false 1 (.p n (0+0))=some (.i .i64 x.op):=hb.ld U _;have d:=hv.ext g;have c:=c h1 n1 g;have go:jo x=uL x.vars x.vars.length 0->WC C Ei [(k1,.p n 0)] h1 n1 (fq [.t k2] Q):=by intro he;rw[he]at c;refine θ<|ε<|γ U<|δ ?_;exact aj<|χ (ag8 e d k l hb _ 0 rfl (by omega) c) (ρ.rf U)
 have bad:jo x=5->WC C ack [] h1 n1 (sq C Ei (fq [.t k2] Q)):=by intro he;rw[he]at c;refine ε<|γ U<|δ (Γ ⟨_,rfl,c⟩)
 refine ε<|γ U<|γ U<|δ ?_;refine θ<|ε<|σ U<|ξ U lo<|ψ U U<|JJ e<|δ ?_;by_cases b:x.op=17\/x.op=18
 ·refine ah U (by simp[b]) ?_;refine aA<|γ U<|γ U<|δ ?_;by_cases h1:x.vars.length<1
  ·refine θ<|ε<|σ U<|ξ U lv<|al U d<|γ U<|ay U U<|γ U<|μ U (by simp<;>omega)<|μ U (by simp<;>omega)<|μ U (by simp<;>omega)<|μ U (by simp<;>omega)<|μ U (by simp<;>omega)<|aU U (by simp<;>omega) U<|δ ?_;exact ah U U<|χ (bad (by simp only[jo,ao b,ao (Or.inl h1)])) trivial
  ·refine θ<|ε<|σ U<|ξ U lv<|al U d<|γ U<|ay U U<|γ U<|ζ U (by simp<;>omega)<|σ U<|ζ U (by simp<;>omega)<|ξ U lv<|ζ U (by simp<;>omega)<|al U d<|ζ U (by simp<;>omega)<|γ U<|ζ U (by simp<;>omega)<|bC U U<|aL U (by simp<;>omega) U<|δ ?_;by_cases h2:12<x.vars.length
   ·exact ah U (by simp<;>omega)<|χ (bad (by simp only[jo,ao b,ao (Or.inr h2)])) trivial
   ·exact ae U (by simp<;>omega)<|Ω<|χ (go (by simp only[jo,ao b];rw[Θ (by omega)])) (ρ.rf U)
 ·refine ae U (by simp[b])<|Ω ?_;refine θ<|ε<|σ U<|ξ U lv<|al U d<|γ U<|ay U U<|γ U<|ζ U (by simp<;>omega)<|σ U<|ζ U (by simp<;>omega)<|ξ U lv<|ζ U (by simp<;>omega)<|al U d<|ζ U (by simp<;>omega)<|γ U<|ζ U (by simp<;>omega)<|bC U U<|aL U (by simp<;>omega) U<|δ ?_;by_cases h2:0<x.vars.length
  ·exact ah U (by simp<;>omega)<|χ (bad (by simp only[jo,Θ b,ao h2])) trivial
  ·refine ae U (eK (by omega))<|Ω<|χ (go ?_) (ρ.rf U);have:x.vars.length=0:=by omega
   simp only[jo,Θ b,Θ h2,this];rfl
def lW(x:Nd):Int:=
 if x.op=2 then (if x.sort=lU/\fm x.name=0\/x.sort=mV/\lS x.name=0 then 0 else 13)
 else if x.op=12\/x.op=13\/x.op=14 then (if x.sort=lU\/x.sort=mV then 0 else 13)
 else if x.op=3\/x.op=4\/x.op=10 then (if x.sort=[] then 13 else 0)
 else if x.op=19 then (if x.sort=[] then 0 else 13)
 else (if x.sort=yB then 0 else 13)
def ahb(j:Cd C){x:Nd}{vv kv:V}(hv:vv.one=true)(z:kv.one=true)(hl:x.name.length<1000000)(A:∀h' n',Ext h n h' n'->Q (.i .i64 (lW x)) h' n'):ν C (.f 113 [] []) [.a (bW x vv kv)] h n Q:=by
 refine ν.go j.f113 U ?_;refine ε<|cR U U (jm x hv z) <| λh1 n1 G r B=>γ U<|δ ?_;have lo:bj h1 false 1 (.p n (0+0))=some (.i .i64 x.op):=cE r rfl _;have ls:bj h1 false 1 (.p n (0+1))=some (st x.sort):=cE r rfl _;have s:bj h1 false 1 (.p n (0+2))=some (st x.name):=cE r rfl _;refine ε<|σ U<|ξ U ls<|eC (b:=[66,111,111,108]) U U<|γ U<|δ ?_;refine θ<|ε<|σ U<|ξ U lo<|δ ?_;have fin:∀(b:Bool) h2 l,Ext h1 n1 h2 l->lW x=(if b then 0 else 13)->WC C Il [(k3,.b b)] h2 l (fq [.t k2] Q):=by intro b h2 l D hb;have:=A h2 l (B.trans D);rw[hb]at this;refine ε<|γ U<|bZ U<|ψ U U<|lF j<|γ U<|δ (Γ ⟨_,rfl,by cases b<;>simpa using this⟩)
 generalize g:x.op=op at*;refine aj<|ε<|aS U U<|γ U<|δ ?_;refine cm U (λd=>?_) (λd=>?_)
 ·simp only[aW]at d;have E:x.sort=lU->¬ x.sort=mV:=λe=>by rw[e];decide
  by_cases h1:x.sort=lU
  ·have h2:=E h1;by_cases c:fm x.name=0
   ·refine aA<|σ U<|ξ U ls<|eC (b:=[73,110,116]) U U<|γ U<|ζ U (by simp[h1])<|σ U<|ζ U (by simp[h1])<|ξ U s<|ζ U (by simp[h1])<|ψ U U<|yC j hl<|ζ U (by simp[h1])<|aS U U<|aU U (by simp[h1]) U<|γ U<|μ U (by simp[c])<|μ U (by simp[c])<|μ U (by simp[c])<|μ U (by simp[c])<|dM U<|dM U<|dM U<|dM U<|μ U (by simp[c])<|aU U (by simp[c]) U<|γ U<|δ ?_;exact χ (fin true _ _ (Ext.refl _ _) (by simp[lW,g,d,h1,c])) (ρ.rf U)
   ·refine aA<|σ U<|ξ U ls<|eC (b:=[73,110,116]) U U<|γ U<|ζ U (by simp[h1])<|σ U<|ζ U (by simp[h1])<|ξ U s<|ζ U (by simp[h1])<|ψ U U<|yC j hl<|ζ U (by simp[h1])<|aS U U<|aU U (by simp[h1]) U<|γ U<|ζ U (by simp[c])<|σ U<|ζ U (by simp[c])<|ξ U ls<|ζ U (by simp[c])<|eC (b:=[82,101,97,108]) U U<|ζ U (by simp[c])<|γ U<|μ U (by simp[h2])<|μ U (by simp[h2])<|μ U (by simp[h2])<|μ U (by simp[h2])<|ζ U (by simp[c])<|aL U (by simp[h2]) U<|aL U (by simp[c]) U<|γ U<|δ ?_;exact χ (fin false _ _ (Ext.refl _ _) (by simp[lW,g,d,h1,c])) (ρ.rf U)
  ·by_cases h2:x.sort=mV
   ·refine aA<|σ U<|ξ U ls<|eC (b:=[73,110,116]) U U<|γ U<|μ U (by simp[h1])<|μ U (by simp[h1])<|μ U (by simp[h1])<|μ U (by simp[h1])<|aL U (by simp[h1]) U<|γ U<|ζ U U<|σ U<|ζ U U<|ξ U ls<|ζ U U<|eC (b:=[82,101,97,108]) U U<|ζ U U<|γ U<|ζ U (by simp[h2])<|σ U<|ζ U (by simp[h2])<|ξ U s<|ζ U (by simp[h2])<|ψ U U<|R4 j hl <| λH I F=>ζ U (by simp[h2])<|aS U U<|ζ U U<|aU U (by simp[h2]) U<|aL U U U<|γ U<|δ ?_;refine χ (fin (decide (lS x.name=0)) _ _ F ?_) (ρ.rf U);by_cases c:lS x.name=0<;>simp[lW,g,d,h2,c]
   ·refine aA<|σ U<|ξ U ls<|eC (b:=[73,110,116]) U U<|γ U<|μ U (by simp[h1])<|μ U (by simp[h1])<|μ U (by simp[h1])<|μ U (by simp[h1])<|aL U (by simp[h1]) U<|γ U<|ζ U U<|σ U<|ζ U U<|ξ U ls<|ζ U U<|eC (b:=[82,101,97,108]) U U<|ζ U U<|γ U<|μ U (by simp[h2])<|μ U (by simp[h2])<|μ U (by simp[h2])<|μ U (by simp[h2])<|ζ U U<|aL U (by simp[h2]) U<|aL U U U<|γ U<|δ ?_;exact χ (fin false _ _ (Ext.refl _ _) (by simp[lW,g,d,h1,h2])) (ρ.rf U)
 simp only[cg]at d;have u:op=12\/op=13\/op=14->WC C P4 [(k1,.p n 0),(k31,.b true)] h1 n1 (blk 0 (sq C Il (fq [.t k2] Q))):=by
  intro m;refine ah U U ?_;by_cases h1:x.sort=lU
  ·refine aA<|σ U<|ξ U ls<|eC (b:=[73,110,116]) U U<|γ U<|μ U (by simp[h1])<|μ U (by simp[h1])<|μ U (by simp[h1])<|aU U (by simp[h1]) U<|γ U<|δ ?_;exact χ (fin true _ _ (Ext.refl _ _) (by simp only[lW,g,Θ d,ao m,ao (Or.inl h1)];rfl)) (ρ.rf U)
  ·refine aA<|σ U<|ξ U ls<|eC (b:=[73,110,116]) U U<|γ U<|ζ U (by simp[h1])<|σ U<|ζ U (by simp[h1])<|ξ U ls<|ζ U (by simp[h1])<|eC (b:=[82,101,97,108]) U U<|aL U (by simp[h1]) U<|γ U<|δ ?_;refine χ (fin (decide (x.sort=mV)) _ _ (Ext.refl _ _) ?_) (ρ.rf U);by_cases h2:x.sort=mV<;>simp[lW,g,d,m,h1,h2]
 refine θ<|ε<|aS U U<|γ U<|δ ?_;refine cm U (λg0=>Ω ?_) (λg0=>?_)
 ·simp only[aW]at g0;exact χ (u (by omega)) ⟨rfl,by show some (V.b _)=_;simp[g0],trivial⟩
 simp only[cg]at g0;refine ε<|aS U U<|γ U<|δ ?_;refine cm U (λg1=>Ω ?_) (λg1=>?_)
 ·simp only[aW]at g1;exact χ (u (by omega)) ⟨rfl,by show some (V.b _)=_;simp[g1],trivial⟩
 simp only[cg]at g1;refine aA<|aS U U<|γ U<|δ ?_;by_cases v:op=14
 ·exact χ (u (by omega)) ⟨rfl,by show some (V.b _)=_;simp[v],trivial⟩
 have k1:¬ (op=12\/op=13\/op=14):=by omega
 refine ae U (by simp[v]) ?_;have f10:op=3\/op=4\/op=10->WC C acq [(X.k1,.p n 0),(k43,.b true)] h1 n1 (blk 0 (sq C Il (fq [.t k2] Q))):=by intro m;refine ah U U ?_;refine aA<|σ U<|ξ U ls<|rA (b:=[]) U U<|γ U<|δ ?_;refine χ (fin (!decide (x.sort=[])) _ _ (Ext.refl _ _) ?_) (ρ.rf U);by_cases h2:x.sort=[]<;>simp[lW,g,d,k1,m,h2]
 refine θ<|ε<|aS U U<|γ U<|δ ?_;refine cm U (λo=>Ω ?_) (λo=>?_)
 ·simp only[aW]at o;exact χ (f10 (by omega)) ⟨rfl,by show some (V.b _)=_;simp[o],trivial⟩
 simp only[cg]at o;refine ε<|aS U U<|γ U<|δ ?_;refine cm U (λq=>Ω ?_) (λq=>?_)
 ·simp only[aW]at q;exact χ (f10 (by omega)) ⟨rfl,by show some (V.b _)=_;simp[q],trivial⟩
 simp only[cg]at q;refine aA<|aS U U<|γ U<|δ ?_;by_cases w:op=10
 ·exact χ (f10 (by omega)) ⟨rfl,by show some (V.b _)=_;simp[w],trivial⟩
 have y:¬ (op=3\/op=4\/op=10):=by omega
 refine ae U (by simp[w]) ?_;refine ε<|aS U U<|γ U<|δ ?_;refine cm U (λk=>?_) (λk=>Ω ?_)
 ·simp only[aW]at k;refine aA<|σ U<|ξ U ls<|eC (b:=[]) U U<|γ U<|δ ?_;refine χ (fin (decide (x.sort=[])) _ _ (Ext.refl _ _) ?_) (ρ.rf U);by_cases h2:x.sort=[]<;>simp[lW,g,d,k1,y,k,h2]
 simp only[cg]at k;refine χ (fin (decide (x.sort=yB)) _ _ (Ext.refl _ _) ?_) (ρ.rf U);by_cases h2:x.sort=yB<;>simp[lW,g,d,k1,y,k,h2]
end
section
variable {C:Nat->Option aI}{h:Hf}{n:K}{Q:V->Hf->K->Prop}
structure Bd(ts:List Nd):Prop where
 len:ts.length<100000
 gw:∀i (hi:i<ts.length),ts[i].kids.length<1000000
 nm:∀i (hi:i<ts.length),ts[i].name.length<1000000
 vl:∀i (hi:i<ts.length),ts[i].vars.length<1000
 vn:∀i (hi:i<ts.length),∀v∈ts[i].vars,v.1.length<10000000
def pF(op:Int):Bool:=decide (op<0)||decide (20<=op)
def wQ(ts:List Nd)(x:Nd):Int:=et [if lT ts x.op x.kids.length x.kids 0 then 11 else 0,jn x,jo x,lW x]
def kh(ts:List Nd)(x:Nd)(i:Nat):Int:=et [if pF x.op then 11 else 0,if gL x.op x.kids.length then 0 else 2,if ord ts i then 0 else 9]
def lX(ts:List Nd)(i:Nat):Int:=
 match ts[i]? with
 | none=>0
 | some x=>if kh ts x i≠0 then kh ts x i else wQ ts x
def ki(ts:List Nd):Nat->Nat->Int
 | 0,_=>0
 | m+1,i=>if lX ts i≠0 then lX ts i else ki ts m (i+1)
def wR(ts:List Nd):Int:=et [if fs ts (ts.length - 1)=0 then 0 else 9,if qw ts (ts.length - 1)=19 then 11 else 0,if 60<tN ts then 24 else 0]
def dn(ts:List Nd):Int:=
 if ts.length=0 then 10 else if 2000<ts.length then 5 else if ki ts ts.length 0≠0 then ki ts ts.length 0 else wR ts
def ET{ts:List Nd}{i:Nat}(hi:i<ts.length):lX ts i=if kh ts ts[i] i≠0 then kh ts ts[i] i else wQ ts ts[i]:=by simp[lX,hi]
def JQ{ts:List Nd}{x:Nd}{i:Nat}(h:kh ts x i=0):ord ts i=true:=by
 unfold kh at h;rw[JH]at h;by_cases a:ord ts i=true
 ·exact a
 ·by_cases h1:pF x.op=true<;>by_cases h2:gL x.op x.kids.length=true<;>simp[h1,h2,a]at h
def yG{ts:List Nd}{i:Nat}(hi:i<ts.length)(a:ord ts i=true):∀k∈ts[i].kids,0<=k/\k<ts.length:=by intro k b;have:=oI a k (by rw[jj hi];exact b);omega
def ahc(q:Cd C){t z:V}{ts:List Nd}{i:Nat}(hb:Bd ts)(ht:aZ h n t ts)(hF:aF h n .i64 z (fl ts ts.length))(hi:i<ts.length)
 {Q1:Ex->Env->Hf->K->Prop}
 (S:∀E' h' n' e,e=lX ts i->e≠0->Ext h n h' n'->lk E' k2=some (.i .i64 e)->Q1 .ret E' h' n')
 (pC:lX ts i=0->∀E' h' n',Ext h n h' n'->ρ [(k0,t),(k4,z),(k5,iN i)] E'->Q1 .normal E' h' n'):
 WC C Ig [(k0,t),(k4,z),(k5,iN i)] h n Q1:=by
 obtain⟨cs,hs⟩:=ht.sl;obtain⟨vv,kv,u⟩:=ht.node hi;have bf:=jm ts[i] (κ.one u.vars) (κ.one u.kids);refine ε<|γ U<|γ U<|aB U U hs hi<|ξ U u.all<|bA <| λh1 n1 cA a1 e1=>aH U U a1 (cj rfl rfl bf) <| λh2 a2 b2=>δ ?_;have w:Ext h n h2 n1:=e1.ab b2 (φ _);have c6:Cl h2 n1 n (bW ts[i] vv kv) 87:=⟨by omega,a2⟩;have row:∀{h' n'},Ext h2 n1 h' n'->bj h' true 5 (.p n 0)=some (.a (bW ts[i] vv kv)):=λe=>bc (c6.ext e).2 rfl;have f:∀{h' n'} (k:K),n1.num<=k.num->Ext h2 n1 h' n'->bj (hp h' k none) true 5 (.p n 0)=some (.a (bW ts[i] vv kv)):=λk hk e=>bc (c6.ext (e.ab (jh _ k none) hk)).2 rfl;have lo:bj h2 false 1 (.p n (0+0))=some (.i .i64 ts[i].op):=c6.ld U _;have x:∀{n':K},n.num<=n'.num->bk n' (.a (bW ts[i] vv kv))=true:=by intro n' T;have h1:=κ.below u.vars T;have h2:=κ.below u.kids T;simp only[bk,bW,fC,h1,h2];rfl
 have cH:cI (.a (bW ts[i] vv kv)) (.a (bW ts[i] vv kv))=true:=by have h1:=κ.cH u.vars;have h2:=κ.cH u.kids;simp only[cI,bW];exact qf (ff _ _) (qf (fg _ _) (qf (fg _ _) (qf h1 (qf h2 rfl))))
 have I:=ht.ext w;have J:=u.vars.ext w;have L:=u.kids.ext w;have W:=hF.ext w;have X:=EL ts i (m:=ts.length) (by omega);rw[jj hi]at X;have Y:=row (Ext.refl _ _);have A:=ET hi;have Z:∀j,(fl ts ts.length).getD j 0<=j:=λj=>EJ ts;refine θ ?_;have mid:∀(E:Env) B v,Ext h2 n1 B v->lk E k0=some t->lk E k4=some z->lk E k5=some (iN i)->lk E k6=some (.p n 0)->lk E k7=some (.i .i64 (kh ts ts[i] i))->WC C abQ E B v (sq C abR Q1):=by
  intro E B v b g0 g4 g5 g6 g7;refine χ (E':=[(k0,t),(k4,z),(k5,iN i),(k6,.p n 0),(k7,.i .i64 (kh ts ts[i] i))]) ?_ ⟨g0,g4,g5,g6,g7,trivial⟩;refine ε<|γ U<|dR U U<|δ ?_;by_cases y:kh ts ts[i] i=0
  ·refine ae U (by simp[y])<|Ω ?_;have tn:=JQ y;have fO:=yG hi tn;have F8:=I.ext b;have D:=L.ext b;have F:=J.ext b;have r3:=row b;have b3:=b.1;rw[Θ (by simp[y])]at A;refine cX<|ak U<|aC U r3 (x (by omega)) cH<|aY U U<|ag6 q F8 (by have:=hb.len;omega) (κ.one F) D (hb.gw i hi) fO <| λh5 n5 c=>nQ U<|aY U U<|lF q<|aC U (row (b.trans c)) (x (by have:=c.1;omega)) cH<|aY U U<|ag7 q (κ.one F) (κ.one D) (hb.nm i hi) <| λh6 n6 d=>aC U (row ((b.trans c).trans d)) (x (by have:=c.1;have:=d.1;omega)) cH<|aY U U<|aha q ((F.ext c).ext d) (κ.one D) (hb.vl i hi) (hb.vn i hi) <| λh7 n7 g=>aC U (row (((b.trans c).trans d).trans g)) (x (by have:=c.1;have:=d.1;have:=g.1;omega)) cH<|aY U U<|ahb q (κ.one F) (κ.one D) (hb.nm i hi) <| λh8 r o=>lP U <| λh9 n9 F9 a9 e9=>aY U U<|zt q.f48 (l:=[if (!!lT ts ts[i].op ts[i].kids.length ts[i].kids 0) then 11 else 0,jn ts[i],jo ts[i],lW ts[i]]) (κ.whole (len:=4) (by omega) a9 rfl) (by simp)<|ak U<|bU (⟨⟨ω (by simp[Nat.testBit]),ω (by simp[Nat.testBit]),bH (f r (b.trans c |>.trans d |>.trans g |>.trans o).1 (b.trans c |>.trans d)) (f r (b.trans c |>.trans d |>.trans g |>.trans o).1 (b.trans c |>.trans d |>.trans g)),bH (f r (b.trans c |>.trans d |>.trans g |>.trans o).1 (b.trans c)) (f r (b.trans c |>.trans d |>.trans g |>.trans o).1 (b.trans c |>.trans d)),bH (f r (b.trans c |>.trans d |>.trans g |>.trans o).1 (b.trans c)) (f r (b.trans c |>.trans d |>.trans g |>.trans o).1 (b.trans c)),bH (f r (b.trans c |>.trans d |>.trans g |>.trans o).1 b) (f r (b.trans c |>.trans d |>.trans g |>.trans o).1 (b.trans c)),trivial⟩,⟨ω (by simp[Nat.testBit]),ω (by simp[Nat.testBit]),ω (by simp[Nat.testBit]),bH (f r (b.trans c |>.trans d |>.trans g |>.trans o).1 (b.trans c)) (f r (b.trans c |>.trans d |>.trans g |>.trans o).1 (b.trans c |>.trans d)),bH (f r (b.trans c |>.trans d |>.trans g |>.trans o).1 (b.trans c)) (f r (b.trans c |>.trans d |>.trans g |>.trans o).1 (b.trans c)),bH (f r (b.trans c |>.trans d |>.trans g |>.trans o).1 b) (f r (b.trans c |>.trans d |>.trans g |>.trans o).1 (b.trans c)),trivial⟩,⟨ω (by simp[Nat.testBit]),ω (by simp[Nat.testBit]),ω (by simp[Nat.testBit]),ω (by simp[Nat.testBit]),bH (f r (b.trans c |>.trans d |>.trans g |>.trans o).1 (b.trans c)) (f r (b.trans c |>.trans d |>.trans g |>.trans o).1 (b.trans c)),bH (f r (b.trans c |>.trans d |>.trans g |>.trans o).1 b) (f r (b.trans c |>.trans d |>.trans g |>.trans o).1 (b.trans c)),trivial⟩,⟨ω (by simp[Nat.testBit]),ω (by simp[Nat.testBit]),ω (by simp[Nat.testBit]),ω (by simp[Nat.testBit]),ω (by simp[Nat.testBit]),ω (by simp[Nat.testBit]),trivial⟩,trivial⟩) ?_
   have e9':Ext h n h9 n9:=(((((w.trans b).trans c).trans d).trans g).trans o).trans e9;have ahh:et [if (!!lT ts ts[i].op ts[i].kids.length ts[i].kids 0) then 11 else 0,jn ts[i],jo ts[i],lW ts[i]]=wQ ts ts[i]:=by rw[Bool.not_not];rfl
   rw[ahh];refine ε<|γ U<|dR U U<|δ ?_;by_cases G:wQ ts ts[i]=0
   ·refine ae U (by simp[G])<|Ω (pC (by rw[A,G]) _ _ _ e9' (ρ.rf U))
   ·refine ah U (by simp[G]) ?_;refine ε<|γ U<|γ U<|δ ?_;exact Γ (S _ _ _ _ A.symm G e9' rfl)
  ·refine ah U (by simp[y]) ?_;rw[ao y]at A;refine ε<|γ U<|γ U<|δ ?_;exact Γ (S _ _ _ _ A.symm y (w.trans b) U)
 have H:kh ts ts[i] i=et [if pF ts[i].op then 11 else 0,if (!gL ts[i].op ts[i].kids.length) then 2 else 0,if (!eh (λj=>(fl ts ts.length).getD j 0) ts[i].kids.reverse i) then 9 else 0]:=by rw[X];unfold kh;cases gL ts[i].op ts[i].kids.length<;>cases ord ts i<;>rfl
 by_cases s:ts[i].op<0
 ·have M:pF ts[i].op=true:=by simp[pF,s]
  rw[M]at H;refine cX<|bG U<|aC U lo U (ff _ _)<|HR U U<|ak U<|dN U (by simp[s])<|dN U (by simp[s])<|dN U (by simp[s])<|yp U (by simp[s]) U<|aY U U<|lF q<|aC U Y (x (by omega)) cH<|aY U U<|R5 q (κ.one J) L <| λB v b=>nQ U<|aY U U<|lF q<|ak U<|ak U<|ak U<|aY U U<|JK q (I.ext b) (by have:=hb.len;omega) hi (W.ext b) (kY ts _) Z (hb.gw i hi)<|nQ U<|aY U U<|lF q<|lP U <| λN O jZ P R=>aY U U<|zt q.f48 (l:=[11,if (!gL ts[i].op ts[i].kids.length) then 2 else 0,if (!eh (λj=>(fl ts ts.length).getD j 0) ts[i].kids.reverse i) then 9 else 0]) (κ.whole (len:=3) (by omega) P rfl) (by simp)<|ak U<|bU (⟨⟨ω (by simp[Nat.testBit]),ω (by simp[Nat.testBit]),ω (by simp[Nat.testBit]),ω (by simp[Nat.testBit]),ω (by simp[Nat.testBit]),bH (f v b.1 (Ext.refl _ _)) (f v b.1 (Ext.refl _ _)),trivial⟩,⟨ω (by simp[Nat.testBit]),ω (by simp[Nat.testBit]),ω (by simp[Nat.testBit]),ω (by simp[Nat.testBit]),ω (by simp[Nat.testBit]),ω (by simp[Nat.testBit]),trivial⟩,trivial⟩) ?_
  exact mid _ N O (b.trans R) U U U U (by rw[H];rfl)
 ·have M:pF ts[i].op=decide (20<=ts[i].op):=by simp[pF,s]
  rw[M]at H;refine cX<|bG U<|aC U lo U (ff _ _)<|HR U U<|ak U<|aR U (by simp[s])<|bG U<|aR U (by simp[s])<|aC U lo U (ff _ _)<|aR U (by simp[s])<|yo U U<|pz U (by simp[s]) U<|aY U U<|lF q<|aC U Y (x (by omega)) cH<|aY U U<|R5 q (κ.one J) L <| λB v b=>nQ U<|aY U U<|lF q<|ak U<|ak U<|ak U<|aY U U<|JK q (I.ext b) (by have:=hb.len;omega) hi (W.ext b) (kY ts _) Z (hb.gw i hi)<|nQ U<|aY U U<|lF q<|lP U <| λN O jZ P R=>aY U U<|zt q.f48 (l:=[if decide (20<=ts[i].op) then 11 else 0,if (!gL ts[i].op ts[i].kids.length) then 2 else 0,if (!eh (λj=>(fl ts ts.length).getD j 0) ts[i].kids.reverse i) then 9 else 0]) (κ.whole (len:=3) (by omega) P rfl) (by simp)<|ak U<|bU (⟨⟨ω (by simp[Nat.testBit]),ω (by simp[Nat.testBit]),ω (by simp[Nat.testBit]),ω (by simp[Nat.testBit]),ω (by simp[Nat.testBit]),bH (f v b.1 (Ext.refl _ _)) (f v b.1 (Ext.refl _ _)),trivial⟩,⟨ω (by simp[Nat.testBit]),ω (by simp[Nat.testBit]),ω (by simp[Nat.testBit]),ω (by simp[Nat.testBit]),ω (by simp[Nat.testBit]),ω (by simp[Nat.testBit]),trivial⟩,⟨ω (by simp[Nat.testBit]),ω (by simp[Nat.testBit]),ω (by simp[Nat.testBit]),ω (by simp[Nat.testBit]),ω (by simp[Nat.testBit]),ω (by simp[Nat.testBit]),trivial⟩,trivial⟩) ?_
  exact mid _ N O (b.trans R) U U U U (by rw[H];rfl)
def ahi(g:Cd C){t a:V}{ts:List Nd}{h0:Hf}{n0:K}(hb:Bd ts)(ht:aZ h0 n0 t ts)(k:aF h0 n0 .i64 a (fl ts ts.length)){Q1:Ex->Env->Hf->K->Prop}
 (l:∀E' h' n' e,e=ki ts ts.length 0->e≠0->Ext h0 n0 h' n'->lk E' k2=some (.i .i64 e)->Q1 .ret E' h' n')
 (pC:ki ts ts.length 0=0->(∀j,j<ts.length->ord ts j=true)->∀E' h' n',Ext h0 n0 h' n'->ρ [(k0,t),(k4,a)] E'->Q1 .normal E' h' n'):
 ∀(m i:Nat) (h:Hf) (n:K),ts.length - i=m->i<=ts.length->ki ts m i=ki ts ts.length 0->(∀j,j<i->ord ts j=true)->Ext h0 n0 h n->WC C PG [(k0,t),(k4,a),(k5,iN i)] h n (blk 0 Q1):=by
 intro m
 induction m with
 | zero=>
  intro i h n hm hi hf b he;have:i=ts.length:=by omega
  subst this;obtain⟨cs,hs⟩:=(ht.ext he).sl;refine ax ?_;refine θ<|ε<|γ U<|γ U<|al U hs<|ay U U<|δ ?_;exact ae U (by simp)<|aJ (pC (by rw[←hf];rfl) b _ _ _ he (ρ.rf U))
 | succ m ih=>
  intro i h n hm hi hf b he;have f:i<ts.length:=by omega
  have hlen:=hb.len;obtain⟨cs,hs⟩:=(ht.ext he).sl;refine ax ?_;refine θ<|ε<|γ U<|γ U<|al U hs<|ay U U<|δ ?_;refine ah U (by simp<;>omega)<|Ω<|θ<|aj ?_;refine χ (ahc g hb (ht.ext he) (k.ext he) f ?_ ?_) (ρ.rf U)
  ·intro E' h' n' e h1 h2 c o;refine l E' h' n' e ?_ h2 (he.trans c) o;rw[←hf,ki,ao (by rw[←h1];exact h2)];exact h1
  ·intro h1 E' h' n' h2 c;refine bS c ?_;refine aA<|γ U<|aX U U ⟨by omega,by omega⟩<|γ U<|δ ?_;refine χ (ih (i+1) h' n' (by omega) (by omega) ?_ ?_ (he.trans h2)) (ρ.rf U)
   ·rw[←hf,ki,Θ (by simp[h1])]
   ·intro j hj;by_cases p:j<i
    ·exact b j p
    ·have:j=i:=by omega
     subst this;rw[ET f]at h1;by_cases d:kh ts ts[j] j=0
     ·exact JQ d
     ·rw[ao d]at h1;exact absurd h1 d
def Wi(a:Cd C){t:V}{ts:List Nd}(hb:Bd ts)(ht:aZ h n t ts)(q:∀h' n',Ext h n h' n'->Q (.i .i64 (dn ts)) h' n'):ν C (.f 39 [] []) [t] h n Q:=by
 refine ν.go a.f39 U ?_;obtain⟨cs,hs⟩:=ht.sl;have hlen:=hb.len;refine ε<|γ U<|δ ?_;refine θ<|ε<|γ U<|al U hs<|aS U U<|ψ U U<|lF a<|γ U<|al U hs<|bC U U<|ψ U U<|lF a<|eg U <| λh1 n1 cA J d=>ψ U U<|zt a.f48 (l:=[if decide ((ts.length:Int)=0) then 10 else 0,if decide ((2000:Int)<ts.length) then 5 else 0]) (κ.whole (len:=2) (by omega) J rfl) (by simp)<|γ U<|δ ?_
 rw[BD];refine ε<|γ U<|dR U U<|δ ?_;have ret:∀(e:Int) h' n',Ext h n h' n'->e=dn ts->WC C abP [(k3,.i .i64 e)] h' n' (sq C PF (fq [.t k2] Q)):=by intro e h' n' he hf;refine ε<|γ U<|γ U<|δ (Γ ⟨_,rfl,by rw[hf];exact q _ _ he⟩)
 by_cases h1:ts.length=0
 ·refine ah U (by simp[h1]) ?_;exact χ (ret 10 _ _ d (by simp[dn,h1])) ⟨by show some (V.i _ _)=_;simp[h1],trivial⟩
 by_cases h2:2000<ts.length
 ·refine ah U (by simp[h1]<;>omega) ?_;refine χ (ret 5 _ _ d (by simp[dn,h1,h2])) ⟨?_,trivial⟩;show some (V.i _ _)=_;rw[Θ (by simp[h1]),ao (by simp<;>omega)]
 refine ae U ?_<|Ω ?_
 ·rw[Θ (by simp[h1]),Θ (by simp<;>omega)];rfl
 refine ε<|γ U<|ψ U U<|R8 a (ht.ext d) (by omega) hb.gw <| λvf v w L x=>γ U<|δ ?_;have r:=d.trans L;refine θ<|ε<|γ U<|δ ?_;refine aj<|χ (ahi (h0:=v) (n0:=w) a hb (ht.ext r) x ?_ ?_ ts.length 0 v w rfl (by omega) U (λj hj=>by omega) (Ext.refl _ _)) (ρ.rf U)
 ·intro E' h' n' e g1 M g N;refine⟨.i .i64 e,by show j6 [.t k2] _ _=_;simp only[j6,ph,rp,N],?_⟩;have:=q h' n' (r.trans g);rw[dn,Θ h1,Θ h2,ao (by rw[←g1];exact M),←g1]at this;exact this
 ·intro g1 O E' y z g P;refine bS P ?_;have A:=r.trans g;have m:=ht.ext A;obtain⟨cs3,B⟩:=m.sl;have D:=x.ext g;have b:ts.length - 1<ts.length:=by omega
  have kA:ts.length - 1<(fl ts ts.length).length:=by rw[kY];exact b
  have E:=D.get kA 1;have R:(fl ts ts.length)[ts.length - 1]=fs ts (ts.length - 1):=by rw[←gW kA];exact EI ts b
  rw[R]at E;obtain⟨vv,kv,s⟩:=m.node b;have F:=s.op 1;rw[←Br b]at F;have G:∀(k:K),z.num<=k.num->bj (hp y k none) false 1 (.p t.blk (t.off+(ts.length - 1)*5+0))=some (.i .i64 (qw ts (ts.length - 1))):=by intro k S;obtain⟨vv,kv,s⟩:=(m.ext ((Ext.refl y z).ab (jh _ k none) S)).node b;have:=s.op 1;rw[←Br b]at this;exact this
  have T:∀{c:V} {h':Hf} {n':K},da h' n' .i64 c (dl ts ts.length)->bj h' false 1 (.p c.blk (c.off+(ts.length - 1)*1))=some (.i .i64 (tN ts)):=by
   intro c h' n' o;have H:ts.length - 1<(dl ts ts.length).length:=by rw[lV];exact b
   have:=o.get H 1;rw[←Bv H]at this;exact this
  have W:ts.length - 1<(dl ts ts.length).length:=by rw[lV];exact b
  refine ε<|γ U<|al U B<|jR U U (show(ts.length:Int) - 1=((ts.length - 1:Nat):Int) by omega) ⟨by omega,by omega⟩<|γ U<|δ ?_;refine cX<|ak U<|ak U<|cK U U D kA<|aC U E U (by simp[cI,fS,cB,ic])<|A3 U U<|aY U U<|lF a<|ak U<|ak U<|cK U U B b<|bG U<|aC U F U (by simp[cI,fS,cB,ic])<|wy U U<|aY U U<|lF a<|ak U<|aY U U<|ag3 a m (by omega) hb.gw O <| λc h4 I u o=>ak U<|cK U U o W<|aC U (T o) U (by simp[cI,fS,cB,ic])<|sH U U<|aY U U<|lF a<|lP U <| λX Y oi Z e5=>aY U U<|zt a.f48 (l:=[if (!decide (((fs ts (ts.length - 1):Nat):Int)=0)) then 9 else 0,if decide (qw ts (ts.length - 1)=19) then 11 else 0,if decide (60<tN ts) then 24 else 0]) (κ.whole (len:=3) (by omega) Z rfl) (by simp)<|ak U<|bU (⟨⟨ω (by simp[Nat.testBit]),ω (by simp[Nat.testBit]),ω (by simp[Nat.testBit]),ω (by simp[Nat.testBit]),ω (by simp[Nat.testBit]),trivial⟩,⟨ω (by simp[Nat.testBit]),ω (by simp[Nat.testBit]),ω (by simp[Nat.testBit]),ω (by simp[Nat.testBit]),bH (G I u.1) (G I u.1),trivial⟩,⟨ω (by simp[Nat.testBit]),ω (by simp[Nat.testBit]),ω (by simp[Nat.testBit]),ω (by simp[Nat.testBit]),ω (by simp[Nat.testBit]),trivial⟩,trivial⟩) ?_
  have hl:wR ts=et [if (!decide (((fs ts (ts.length - 1):Nat):Int)=0)) then 9 else 0,if decide (qw ts (ts.length - 1)=19) then 11 else 0,if decide (60<tN ts) then 24 else 0]:=by unfold wR;simp only[aW];congr 1;simp
  rw[←hl];refine Γ ⟨_,rfl,?_⟩;have:=q X Y ((A.trans u).trans e5);rw[dn,Θ h1,Θ h2,Θ (by simp[g1])]at this;exact this
end
section
variable {C:Nat->Option aI}{h:Hf}{n:K}{Q:V->Hf->K->Prop}
def Ml(k:Cd C){t:V}{ts:List Nd}{m:List (V×V)}(ht:jV h n t ts m)(hlen:ts.length<1000000)(h0:0<ts.length)
 (l:∀h' n' vv kv,Ext h n h' n'->m[ts.length - 1]?=some (vv,kv)->du h n vv (ts[ts.length - 1]'(by omega)).vars->da h n .i64 kv (ts[ts.length - 1]'(by omega)).kids->Q (.a (bW (ts[ts.length - 1]'(by omega)) vv kv)) h' n'):ν C (.f 68 [] []) [t] h n Q:=by
 refine ν.go k.f68 U ?_;have b:ts.length - 1<ts.length:=by omega
 have hm:=ht.choose;obtain⟨_,hs,d⟩:=ht;have o:=sF hm b;have hb:=(d _ b).1;have e:=(d _ b).2;refine ε<|bA <| λh1 n1 s p g=>δ ?_;have c:=hs.ext g;have j:=c.jP (i:=(ts.length - 1)*5) (sz:=5) (by omega) (by omega);rw[o]at j;have q:=jm ts[ts.length - 1] (κ.one hb) (κ.one e);refine ε<|γ U<|γ U<|al U c<|jR U U (show(ts.length:Int) - 1=((ts.length - 1:Nat):Int) by omega) ⟨by omega,by omega⟩<|aB U U c b<|ξ U j<|aH U U p (cj rfl rfl q) <| λh2 r b2=>δ ?_;refine Γ ⟨_,jE rfl (bc r (iL rfl)),?_⟩;exact l h2 n1 _ _ (g.ab b2 (φ _)) (by rw[df]) hb e
def wS{a b c d e v:V}(f:v.cells=[v])(g:v.one=true):ju [a,b,c,d,e] 0 (0+3) 1 v=some [a,b,c,v,e]:=by simp only[ju,f,aD,g,dy,jy,cL,over];rfl
def wT{a b c d e v:V}(f:v.cells=[v])(g:v.one=true):ju [a,b,c,d,e] 0 (0+4) 1 v=some [a,b,c,d,v]:=by simp only[ju,f,aD,g,dy,jy,cL,over];rfl
def yH{cs:List V}(hl:cs.length=5)(f:aD cs=true){E:Env}{k:K}(h1:lk E k=some (.a cs)):
 gq E [.i .i64 0,.s 0 0,.s 0 0,.ns,.ns] [(0,5,.t k)]=some cs:=by
 match cs,hl with
 | [a,b,c,d,e],_=>
  simp only[gq,ge,h1,V.cells,dy,jy,f,cL,over];rfl
def cz(P:Nd->V×V->Prop):List Nd->List (V×V)->Prop
 | [],[]=>True
 | x::ts,p::m=>P x p/\cz P ts m
 | _,_=>False
def cz.len{P:Nd->V×V->Prop}:∀{ts:List Nd} {m:List (V×V)},cz P ts m->m.length=ts.length:=by
 intro ts
 induction ts with
 | nil=>intro m h;cases m with | nil=>rfl | cons=>exact h.elim
 | cons x ts ih=>intro m h;cases m with | nil=>exact h.elim | cons p m=>simp[ih h.2]
def cz.mono{P P':Nd->V×V->Prop}(f:∀x p,P x p->P' x p):∀{ts:List Nd} {m:List (V×V)},cz P ts m->cz P' ts m:=by
 intro ts
 induction ts with
 | nil=>intro m h;cases m with | nil=>trivial | cons=>exact h.elim
 | cons x ts ih=>intro m h;cases m with | nil=>exact h.elim | cons p m=>exact⟨f _ _ h.1,ih h.2⟩
def cz.app{P:Nd->V×V->Prop}:∀{ts a:List Nd} {m b:List (V×V)},cz P ts m->cz P a b->cz P (ts++a) (m++b):=by
 intro ts
 induction ts with
 | nil=>intro a m b h h';cases m with | nil=>exact h' | cons=>exact h.elim
 | cons x ts ih=>intro a m b h h';cases m with | nil=>exact h.elim | cons p m=>exact⟨h.1,ih h.2 h'⟩
def cz.get{P:Nd->V×V->Prop}:∀{ts:List Nd} {m:List (V×V)},cz P ts m->∀i (hi:i<ts.length) (hj:i<m.length),P ts[i] m[i]:=by
 intro ts
 induction ts with
 | nil=>intro m h i hi;simp at hi
 | cons x ts ih=>
  intro m h i hi hj;cases m with
  | nil=>exact h.elim
  | cons p m=>
   cases i with
   | zero=>exact h.1
   | succ i=>exact ih h.2 i (by simpa using hi) (by simpa using hj)
def cC(a b:V):Prop:=a=.ns\/b=.ns\/a.blk.num≠b.blk.num
def cC.of{a b:V}{n:K}(h1:a=.ns\/a.blk.num<n.num)(h2:b=.ns\/n.num<=b.blk.num):cC a b:=by
 rcases h1 with h1 | h1
 ·exact Or.inl h1
 ·rcases h2 with h2 | h2
  ·exact Or.inr (Or.inl h2)
  ·exact Or.inr (Or.inr (by omega))
def cC.symm{a b:V}(h:cC a b):cC b a:=by
 rcases h with h | h | h
 ·exact Or.inr (Or.inl h)
 ·exact Or.inl h
 ·exact Or.inr (Or.inr (Ne.symm h))
def κ.eD{h h':Hf}{n n':K}{z:Nat}{v:V}{len:Nat}{cs:List V}(a:κ h n z v len cs)(e:v=.ns\/h' v.blk=h v.blk)(g:n.num<=n'.num):κ h' n' z v len cs:=by
 obtain⟨h1,h2⟩:=a;refine⟨h1,h2.imp id λ⟨⟨b,o,c,d,i⟩,row,f,j⟩=>⟨⟨b,o,c,d,ep i g⟩,row,?_,j⟩⟩;rcases e with e | e
 ·subst e;cases d with | inl e=>cases e.1 | inr e=>cases e
 ·unfold gS at f ⊢;rw[e];exact f
structure RO(h:Hf)(lo n:K)(v:V)(x:Nd)(p:V×V):Prop where
 b:du h n p.1 x.vars
 k:da h n .i64 p.2 x.kids
 ko:x.kids=[]\/(p.2=.su p.2.blk 0 x.kids.length 1/\h p.2.blk=some (.c (cO .i64 x.kids) 3 0))
 kr:p.2=.ns\/lo.num<=p.2.blk.num
 vr:p.1=.ns\/lo.num<=p.1.blk.num
 vk:cC p.1 p.2
 vt:cC p.1 v
 kt:cC p.2 v
structure TO(h:Hf)(lo n:K)(v:V)(ts:List Nd)(m:List (V×V)):Prop where
 sl:κ h n 5 v ts.length (ca ts m)
 rows:cz (RO h lo n v) ts m
 pw:m.Pairwise λp q=>cC p.2 q.2/\cC p.1 q.2/\cC p.2 q.1
 ge:v=.ns\/lo.num<=v.blk.num
def TO.tm{h:Hf}{lo n:K}{v:V}{ts:List Nd}{m:List (V×V)}(a:TO h lo n v ts m):jV h n v ts m:=
 ⟨a.rows.len,a.sl,λi hi=>⟨(a.rows.get i hi (by rw[a.rows.len];exact hi)).b,(a.rows.get i hi (by rw[a.rows.len];exact hi)).k⟩⟩
def RO.step{h h':Hf}{lo n n':K}{v v':V}{x:Nd}{p:V×V}(a:RO h lo n v x p)(hs:∀b:K,b.num<n.num->(v=.ns\/b.num≠v.blk.num)->h' b=h b)(c:n.num<=n'.num)(d:n.num<=v'.blk.num):RO h' lo n' v' x p:=by
 have f:=κ.cP a.b;have i:=κ.cP a.k;have m:p.1=.ns\/h' p.1.blk=h p.1.blk:=by
  rcases f with l | l
  ·exact Or.inl l
  ·rcases a.vt with g | g | g
   ·exact Or.inl g
   ·exact Or.inr (hs _ l (Or.inl g))
   ·exact Or.inr (hs _ l (Or.inr g))
 have j:p.2=.ns\/h' p.2.blk=h p.2.blk:=by
  rcases i with l | l
  ·exact Or.inl l
  ·rcases a.kt with g | g | g
   ·exact Or.inl g
   ·exact Or.inr (hs _ l (Or.inl g))
   ·exact Or.inr (hs _ l (Or.inr g))
 refine⟨κ.eD a.b m c,κ.eD a.k j c,?_,a.kr,a.vr,a.vk,cC.of f (Or.inr d),cC.of i (Or.inr d)⟩;rcases a.ko with g | g
 ·exact Or.inl g
 ·rcases j with e | e
  ·have:=g.1;rw[e]at this;cases this
  ·exact Or.inr ⟨g.1,by rw[e];exact g.2⟩
def ea.nil{h:Hf}{e z len:Nat}{v:V}{cs:List V}(a:ea h e z v len cs)(g:v=.ns):len=0:=by
 rcases a.2 with h | ⟨_,b,h1,h2⟩
 ·exact h.2
 ·rw[g]at h1;cases h1
def ea.su{h:Hf}{e z len:Nat}{v:V}{cs:List V}(a:ea h e z v len cs):v=.ns\/(v=.su v.blk 0 len z/\h v.blk=some (.c cs e 0)):=by
 rcases a.2 with h | ⟨_,b,h1,h2⟩
 ·exact Or.inl h.1
 ·subst h1;exact Or.inr ⟨rfl,h2⟩
section
variable {h0:Hf}{n0:K}{t:V}{ts:List Nd}
def aho(hC:Cd C)(ht:aZ h0 n0 t ts)(hb:Bd ts){Q1:Ex->Env->Hf->K->Prop}
 (hQ:∀vo m h n E',Ext h0 n0 h n->TO h n0 n vo ts m->ρ [(k3,vo)] E'->Q1 .normal E' h n):
 ∀(r i:Nat) (vo:V) (m:List (V×V)) (h:Hf) (n:K),ts.length - i=r->i<=ts.length->TO h n0 n vo (ts.take i) m->Gr h0 n0 h n 87 5 vo i (ca (ts.take i) m)->WC C acv [(k0,t),(k3,vo),(k4,iN i)] h n (blk 0 Q1):=by
 have hlen:=hb.len;intro r
 induction r with
 | zero=>
  intro i vo m h n E hi o s;have:i=ts.length:=by omega
  subst this;obtain⟨cs,hs⟩:=(ht.ext s.ext).sl;rw[eN]at o;refine ax ?_;refine θ<|ε<|γ U<|γ U<|al U hs<|ay U U<|δ ?_;exact ae U (by simp)<|aJ (hQ vo m h n _ s.ext o (ρ.rf U))
 | succ r ih=>
  intro i vo m h n E hi o s;have A:i<ts.length:=by omega
  have O:=ht.ext s.ext;obtain⟨cs,hs⟩:=O.sl;obtain⟨vv,kv,B⟩:=O.node A;have bf:=jm ts[i] (κ.one B.vars) (κ.one B.kids);have bP:=hb.gw i A;have mP:=hb.vl i A;refine ax ?_;refine θ<|ε<|γ U<|γ U<|al U hs<|ay U U<|δ ?_;refine ah U (by simp<;>omega)<|Ω ?_;refine θ<|aj<|ε<|γ U<|γ U<|aB U U hs A<|ξ U B.all<|bA <| λh1 n1 cA a1 e1=>aH U U a1 (cj rfl rfl bf) <| λh2 P b2=>δ ?_;have x2:Ext h n h2 n1:=e1.ab b2 (φ _);have gh:=B.vars.ext x2;refine ε<|σ U<|ξ U (cE P rfl _)<|yr U U gh (by omega) (by omega) (by omega) <| λd h3 R o3 x3 u=>σ U<|aH U U ((x3.2 _ (by omega)).trans P) (wS o3.cells o3.one) <| λS T b4=>δ ?_;have W:bm n h3 S:=b4;have x4:Ext h n S R:=(x2.trans x3).ab W (φ _);have hk4:=B.kids.ext x4;have gJ:=x3.1;refine ε<|σ U<|ξ U (cE T rfl _)<|yr U U hk4 (by omega) (by omega) (by omega) <| λe h5 y o5 F z=>σ U<|aH U U ((F.2 _ (by omega)).trans T) (wT o5.cells o5.one) <| λv a6 b6=>δ ?_;have J:bm n h5 v:=b6;have X:Ext h n v y:=(x4.trans F).ab J (φ _);have oi:=F.1;have CO:v n=some (.c (bW ts[i] d e) 87 0):=a6;have JR:ea v 64 2 d ts[i].vars.length (fW ts[i].vars):=(((o3.ext (u.imp id λh=>W _ (by omega))).ext (u.imp id λh=>F.2 _ (by omega))).ext (u.imp id λh=>J _ (by omega)));have L:ea v 3 1 e ts[i].kids.length (cO .i64 ts[i].kids):=o5.ext (z.imp id λh=>J _ (by omega));have Y:=jm ts[i] o3.one o5.one;have M:=s.on X;refine aA<|γ U<|ξ U (bc CO (iL rfl))<|eg (yH rfl Y rfl) <| λh7 n7 oW a7 w=>jF U ((M.on w).own) U (κ.whole (len:=1) (by omega) a7 rfl) (by omega) (by omega) (by omega) (by omega) Y ((M.on w).lt) <| λG D Z o8 H sY I=>γ U<|δ ?_;have N:=(M.on w).app o8 H sY I;have Wj:Ext h n h7 n7:=X.trans w;have Ay:m.length=i:=by rw[o.rows.len];simp;omega
  have CX:ts.take (i+1)=ts.take i++[ts[i]]:=fL A;have JT:ca (ts.take i) m++bW ts[i] d e=ca (ts.take (i+1)) (m++[(d,e)]):=by rw[CX,uw (by rw[Ay];simp;omega)];rfl
  rw[JT]at N;have oW:=w.1;have ahp:=s.ext.1;have ahq:n.num<n1.num:=by omega
  have Hq:∀b:K,b.num<n.num->(vo=.ns\/b.num≠vo.blk.num)->D b=h b:=λb hb hv=>by rw[I b (by omega) hv,Wj.2 b hb]
  have l3:d=.ns\/d.blk.num<R.num:=u.imp id And.right;have l5:e=.ns\/e.blk.num<y.num:=z.imp id And.right;have JU:d=.ns\/(vo=.ns\/d.blk.num≠vo.blk.num):=u.imp id λh=>s.lt.imp id λg=>by omega
  have JV:e=.ns\/(vo=.ns\/e.blk.num≠vo.blk.num):=z.imp id λh=>s.lt.imp id λg=>by omega
  have f3:d=.ns\/D d.blk=v d.blk:=by
   rcases l3 with l | l
   ·exact Or.inl l
   ·rcases JU with g | g
    ·exact Or.inl g
    ·exact Or.inr (by rw[I _ (by omega) g,w.2 _ (by omega)])
  have f5:e=.ns\/D e.blk=v e.blk:=by
   rcases l5 with l | l
   ·exact Or.inl l
   ·rcases JV with g | g
    ·exact Or.inl g
    ·exact Or.inr (by rw[I _ (by omega) g,w.2 _ (by omega)])
  have JW:e=.ns\/n0.num<=e.blk.num:=z.imp id λh=>by omega
  have JX:d=.ns\/n0.num<=d.blk.num:=u.imp id λh=>by omega
  have k8:G=.ns\/y.num<=G.blk.num:=Or.inr (by rw[H];omega);have JY:d=.ns\/d.blk.num<y.num:=l3.imp id λh=>by omega
  have g5:e=.ns\/n.num<=e.blk.num:=z.imp id λh=>by omega
  have g3:d=.ns\/n.num<=d.blk.num:=u.imp id λh=>by omega
  have ro:RO D n0 Z G ts[i] (d,e):=by
   refine⟨κ.eD (JR.sl (n:=y) JY) f3 (by omega),κ.eD (L.sl (n:=y) l5) f5 (by omega),?_,JW,JX,cC.of l3 (z.imp id And.left),cC.of JY k8,cC.of l5 k8⟩;rcases L.su with g | g
   ·exact Or.inl (nD.1 (L.nil g))
   ·rcases f5 with f | f
    ·have:=g.1;rw[f]at this;cases this
    ·exact Or.inr ⟨g.1,by rw[f];exact g.2⟩
  refine aA<|γ U<|aX U U ⟨by omega,by omega⟩<|γ U<|δ ?_;refine χ (ih (i+1) G (m++[(d,e)]) D Z (by omega) (by omega) ⟨?_,?_,?_,Or.inr (by rw[H];omega)⟩ N) (ρ.rf U)
  ·have:=N.sl;have el:(ts.take (i+1)).length=i+1:=by simp;omega
   rw[el];exact this
  ·rw[CX];exact cz.app (cz.mono (λx p a=>a.step Hq (by omega) (by rw[H];omega)) o.rows) ⟨ro,trivial⟩
  ·rw[List.pairwise_append];refine⟨o.pw,List.pairwise_singleton _ _,?_⟩;intro p hp q hq;rw[iZ]at hq;subst hq;obtain⟨j,hj,rfl⟩:=iX hp;have E:=o.rows.get j (by rw[←o.rows.len];exact hj) hj;have b1:=κ.cP E.b;have b2:=κ.cP E.k;exact⟨cC.of b2 g5,cC.of b1 g5,cC.of b2 g3⟩
end
def JZ(a:Cd C){t:V}{ts:List Nd}(ht:aZ h n t ts)(hb:Bd ts)(b:∀vo m h' n',Ext h n h' n'->TO h' n n' vo ts m->Q vo h' n'):ν C (.f 131 [] []) [t] h n Q:=by refine ν.go a.f131 U ?_;refine ε<|γ U<|δ ?_;refine ε<|γ U<|δ ?_;refine θ<|ε<|γ U<|δ ?_;refine aj<|χ (aho a ht hb ?_ _ 0 .ns [] h n rfl (by omega) ⟨by simp;exact κ.ns h n 5,trivial,List.Pairwise.nil,Or.inl U⟩ (by simpa[ca]using Gr.ns (Ext.refl h n))) (ρ.rf U);intro vo m h1 n1 E1 c d s1;refine bS s1 ?_;refine ε<|γ U<|γ U<|δ (Γ ⟨_,rfl,b vo m h1 n1 c d⟩)
end
section
variable {C:Nat->Option aI}{h:Hf}{n:K}{Q:V->Hf->K->Prop}
def ahr:∀(l:List Nd) (m:List (V×V)),m.length=l.length->∀i,(ca l m).drop (i*5)=ca (l.drop i) (m.drop i):=by
 intro l
 induction l with
 | nil=>intro m hm i;cases m with | nil=>simp[ca] | cons=>simp at hm
 | cons x l ih=>
  intro m hm i;cases m with
  | nil=>simp at hm
  | cons p m=>
   cases i with
   | zero=>simp
   | succ i=>
    rw[xR,xR,←ih m (by simpa using hm) i];rw[rX,nF,←List.drop_drop];rfl
def J0:∀(l:List Nd) (m:List (V×V)),m.length=l.length->∀i,(ca l m).take (i*5)=ca (l.take i) (m.take i):=by
 intro l
 induction l with
 | nil=>intro m hm i;cases m with | nil=>simp[ca] | cons=>simp at hm
 | cons x l ih=>
  intro m hm i;cases m with
  | nil=>simp at hm
  | cons p m=>
   cases i with
   | zero=>simp[ca]
   | succ i=>
    rw[mD,mD];show(bW x p.1 p.2++ca l m).take ((i+1)*5)=bW x p.1 p.2++ca (l.take i) (m.take i);have a:(bW x p.1 p.2).length=5:=rfl;rw[←ih m (by simpa using hm) i,rX,nF,List.take_append,a,show 5+i*5 - 5=i*5 by omega,kI (by rw[a];omega)]
def jV.sub{v v':V}{ts:List Nd}{m:List (V×V)}(a:jV h n v ts m){i j:Nat}(e:i+j<=ts.length)(s:κ h n 5 v' j (((ca ts m).drop (i*5)).take (j*5))):jV h n v' ((ts.drop i).take j) ((m.drop i).take j):=by
 obtain⟨hm,h1,h2⟩:=a;have hl:((ts.drop i).take j).length=j:=by simp;omega
 rw[ahr _ _ hm,J0 _ _ (by simp[hm])]at s;refine⟨by simp[hm],by rw[hl];exact s,λk b=>?_⟩;rw[hl]at b;have c:((ts.drop i).take j)[k]'(by rw[hl];exact b)=ts[i+k]'(by omega):=by simp
 have d:((m.drop i).take j)[k]'(by simp[hm];omega)=m[i+k]'(by omega):=by simp
 simp only[c,d];exact h2 (i+k) (by omega)
def aZ.sub{v v':V}{ts:List Nd}{cs:List V}(a:aZ h n v ts){i j:Nat}(f:i+j<=ts.length)(l:κ h n 5 v ts.length cs)(s:κ h n 5 v' j ((cs.drop (i*5)).take (j*5))):aZ h n v' ((ts.drop i).take j):=by
 obtain⟨m,hm⟩:=a;have:cs=ca ts m:=by
  obtain⟨_,h1,_⟩:=hm;obtain⟨g1,o⟩:=l;obtain⟨k1,k2⟩:=h1;rcases o with g | ⟨_,row,r1,r2⟩
  ·have b:cs=[]:=by rw[g.2]at g1;simpa using g1
   have c:ca ts m=[]:=by rw[g.2]at k1;simpa using k1
   rw[b,c]
  ·rcases k2 with k | ⟨_,p,d,e⟩
   ·have b:cs=[]:=by rw[k.2]at g1;simpa using g1
    have c:ca ts m=[]:=by rw[k.2]at k1;simpa using k1
    rw[b,c]
   ·rw[r1]at d;cases d;rw[r2]at e;cases e;rfl
 subst this;exact⟨_,jV.sub hm f s⟩
def Ga(f:Nat)(x:Nd):Nd:=⟨x.op,x.sort,x.name,x.vars,x.kids.map λk=>k - f⟩
def part(ts:List Nd)(i:Nat):List Nd:=((ts.drop (fs ts i)).take (i+1 - fs ts i)).map (Ga (fs ts i))
def yI{ts:List Nd}{i:Nat}(hi:i<ts.length):(part ts i).length=i+1 - fs ts i:=by have:=nW ts i;simp[part];omega
def cz.of{P:Nd->V×V->Prop}:∀{ts:List Nd} {m:List (V×V)},m.length=ts.length->(∀i (hi:i<ts.length) (hj:i<m.length),P ts[i] m[i])->cz P ts m:=by
 intro ts
 induction ts with
 | nil=>intro m hm _;cases m with | nil=>trivial | cons=>simp at hm
 | cons x ts ih=>
  intro m hm h;cases m with
  | nil=>simp at hm
  | cons p m=>
   refine⟨h 0 (by simp) (by simp),ih (by simpa using hm) λi hi hj=>?_⟩;have:=h (i+1) (by simpa using hi) (by simpa using hj);simpa using this
def ahs{x:Nd}:∀(l:List Nd) (m:List (V×V)) (i:Nat) (hi:i<l.length),x.op=l[i].op->x.sort=l[i].sort->x.name=l[i].name->ca (l.set i x) m=ca l m:=by
 intro l
 induction l with
 | nil=>intro m i hi;simp at hi
 | cons y l ih=>
  intro m i hi h1 h2 a;cases m with
  | nil=>cases i<;>rfl
  | cons p m=>
   cases i with
   | zero=>
    simp only[nz]at h1 h2 a;simp only[List.set_cons_zero];show bW x p.1 p.2++ca l m=bW y p.1 p.2++ca l m;simp only[bW,h1,h2,a]
   | succ i=>
    simp only[ra];show bW y p.1 p.2++ca (l.set i x) m=bW y p.1 p.2++ca l m;rw[ih m i (by simpa using hi) (by simpa using h1) (by simpa using h2) (by simpa using a)]
def RO.ab{h h':Hf}{lo n:K}{v:V}{x:Nd}{p:V×V}(a:RO h lo n v x p){b:K}(e:bm b h h')(h1:p.1=.ns\/p.1.blk.num≠b.num)(h2:p.2=.ns\/p.2.blk.num≠b.num):RO h' lo n v x p:=by
 refine⟨κ.ab a.b e h1,κ.ab a.k e h2,?_,a.kr,a.vr,a.vk,a.vt,a.kt⟩;rcases a.ko with g | g
 ·exact Or.inl g
 ·rcases h2 with k | k
  ·have:=g.1;rw[k]at this;cases this
  ·exact Or.inr ⟨g.1,by rw[e _ k];exact g.2⟩
def wk(x:Nd)(l:List Int):Nd:=⟨x.op,x.sort,x.name,x.vars,l⟩
def TO.J1{h h':Hf}{lo n:K}{v:V}{ts:List Nd}{m:List (V×V)}(a:TO h lo n v ts m){i k:Nat}{y:Int}(hi:i<ts.length)(hj:i<m.length)(t:k<ts[i].kids.length)
 (e:bm m[i].2.blk h h')(hs:h' m[i].2.blk=some (.c (cO .i64 (ts[i].kids.set k y)) 3 0)):TO h' lo n v (ts.set i (wk ts[i] (ts[i].kids.set k y))) m:=by
 have d:=a.rows.get i hi hj;have f:m[i].2≠.ns:=by
  intro h;have:=d.k;rw[h]at this;rcases this.2 with g | ⟨⟨b,o,c,g,_⟩,_⟩
  ·have:=g.2;omega
  ·rcases g with g | g
   ·cases g.1
   ·cases g
 have bl:m[i].2.blk.num<n.num:=by
  rcases κ.cP d.k with g | g
  ·exact absurd g f
  ·exact g
 have u:v=.ns\/v.blk.num≠m[i].2.blk.num:=by
  rcases d.kt with g | g | g
  ·exact absurd g f
  ·exact Or.inl g
  ·exact Or.inr (Ne.symm g)
 refine⟨?_,?_,a.pw,a.ge⟩
 ·rw[gZ,ahs (x:=wk ts[i] (ts[i].kids.set k y)) _ _ _ hi rfl rfl rfl];exact κ.ab a.sl e u
 ·refine cz.of (by rw[gZ];exact a.rows.len) λj q l=>?_;rw[gZ]at q;by_cases r:i=j
  ·subst r;simp only[vM];have p:m[i].2=.su m[i].2.blk 0 ts[i].kids.length 1:=by
    rcases d.ko with g | g
    ·simp[g]at t
    ·exact g.1
   refine⟨κ.ab d.b e ?_,?_,Or.inr ⟨by show _=V.su _ 0 (ts[i].kids.set k y).length 1;rw[gZ];exact p,hs⟩,d.kr,d.vr,d.vk,d.vt,d.kt⟩
   ·rcases d.vk with g | g | g
    ·exact Or.inl g
    ·exact absurd g f
    ·exact Or.inr g
   ·unfold da;refine⟨by simp[AZ,wk],Or.inr ⟨⟨m[i].2.blk,0,0,Or.inr (by show _=V.su _ 0 (ts[i].kids.set k y).length 1;rw[gZ];exact p),bl⟩,cO .i64 (ts[i].kids.set k y),by simp[gS,hs,O.row],?_⟩⟩;rw[p];exact iL (by simp[AZ,wk])
  ·rw[xL r];have w:=a.rows.get j q l;have pw:=List.pairwise_iff_getElem.1 a.pw;have s:cC m[j].2 m[i].2/\cC m[j].1 m[i].2:=by
    rcases iG i j with g | g
    ·have:=pw i j hj l g;exact⟨this.1.symm,this.2.2.symm⟩
    ·have:=pw j i l hj (by omega);exact⟨this.1,this.2.1⟩
   refine w.ab e ?_ ?_
   ·rcases s.2 with g | g | g
    ·exact Or.inl g
    ·exact absurd g f
    ·exact Or.inr g
   ·rcases s.1 with g | g | g
    ·exact Or.inl g
    ·exact absurd g f
    ·exact Or.inr g
end
section
variable {C:Nat->Option aI}{h:Hf}{n:K}{Q:V->Hf->K->Prop}
def gY(g:Int->Int)(x:Nd):Nd:=wk x (x.kids.map g)
def shl(g:Int->Int)(k:Nat)(l:List Int):List Int:=(l.take k).map g++l.drop k
def wV(g:Int->Int)(k:Nat)(l:List Int):(shl g k l).length=l.length:=by simp[shl];omega
def J2{g:Int->Int}{k:Nat}{l:List Int}(a:k<l.length):(shl g k l)[k]'(by rw[wV];exact a)=l[k]:=by unfold shl;rw[List.getElem_append_right (by simp;omega)];simp[rW (eu a)]
def aht{g:Int->Int}{k:Nat}{l:List Int}(a:k<l.length):(shl g k l).set k (g l[k])=shl g (k+1) l:=by unfold shl;rw[List.set_append_right _ _ (by simp;omega),fL a,List.map_append,pO];congr 1;rw[kJ,ot,rW (eu a),lL,eo a,List.set_cons_zero];rfl
def J3(g:Int->Int)(l:List Int):shl g 0 l=l:=by simp[shl]
def ahu(g:Int->Int)(l:List Int):shl g l.length l=l.map g:=by simp[shl]
structure lH(g:Int->Int)(t0 us:List Nd)(i k:Nat):Prop where
 len:us.length=t0.length
 lo:∀j (h1:j<us.length) (h2:j<t0.length),j<i->us[j]=gY g t0[j]
 at_:∀(h1:i<us.length) (h2:i<t0.length),us[i]=wk t0[i] (shl g k t0[i].kids)
 hi:∀j (h1:j<us.length) (h2:j<t0.length),i<j->us[j]=t0[j]
def lH.start(g:Int->Int)(t0:List Nd):lH g t0 t0 0 0:=⟨rfl,λj _ _ h=>by omega,λ_ _=>by rw[J3];rfl,λ_ _ _ _=>rfl⟩
def lH.set{g:Int->Int}{t0 us:List Nd}{i k:Nat}(c:lH g t0 us i k)(h1:i<us.length)(h2:i<t0.length)(b:k<t0[i].kids.length):lH g t0 (us.set i (wk us[i] (us[i].kids.set k (g t0[i].kids[k])))) i (k+1):=by
 refine⟨by rw[gZ];exact c.len,λj g1 a h=>?_,λg1 a=>?_,λj g1 a h=>?_⟩
 ·rw[gZ]at g1;rw[xL (by omega)];exact c.lo j g1 a h
 ·rw[vM,c.at_ h1 h2];show wk _ ((shl g k t0[i].kids).set k _)=_;rw[aht b];rfl
 ·rw[gZ]at g1;rw[xL (by omega)];exact c.hi j g1 a h
def lH.next{g:Int->Int}{t0 us:List Nd}{i:Nat}(c:lH g t0 us i (match t0[i]? with | some x=>x.kids.length | none=>0)):lH g t0 us (i+1) 0:=by
 refine⟨c.len,λj g1 a h=>?_,λg1 a=>?_,λj g1 a h=>c.hi j g1 a (by omega)⟩
 ·by_cases hj:j<i
  ·exact c.lo j g1 a hj
  ·have:j=i:=by omega
   subst this;rw[c.at_ g1 a,df a];show wk _ (shl g t0[j].kids.length t0[j].kids)=_;rw[ahu];rfl
 ·rw[c.hi (i+1) g1 a (by omega),J3];rfl
def lH.done{g:Int->Int}{t0 us:List Nd}{k:Nat}(c:lH g t0 us t0.length k):us=t0.map (gY g):=by
 refine vO (by simp[c.len]) λj h1 h2=>?_;have:j<t0.length:=by simpa using h2
 rw[c.lo j h1 this this];simp
section
variable {h0:Hf}{lo n0:K}{f:Nat}{t0:List Nd}{v:V}{m:List (V×V)}
def ahv(hlen:t0.length<100000)(hf:f<100000)(D:∀i (hi:i<t0.length),t0[i].kids.length<1000000)(E:∀i (hi:i<t0.length),∀k∈t0[i].kids,0<=k/\k<1000000){i:Nat}(hi:i<t0.length)(W:n0.num<=lo.num){Q1:Ex->Env->Hf->K->Prop}
 (F:∀us h E',Ext h0 n0 h n->TO h lo n v us m->lH (λx=>x - (f:Int)) t0 us (i+1) 0->ρ [(k5,iN f),(k6,v),(k7,iN i)] E'->Q1 .normal E' h n):
 ∀(r k:Nat) (us:List Nd) (h:Hf),t0[i].kids.length - k=r->k<=t0[i].kids.length->Ext h0 n0 h n->TO h lo n v us m->lH (λx=>x - (f:Int)) t0 us i k->WC C acu [(k5,iN f),(k6,v),(k7,iN i),(k8,iN k)] h n (blk 2 Q1):=by
 intro r
 induction r with
 | zero=>
  intro k us h G H he l q;have I:k=t0[i].kids.length:=by omega
  subst I;have d:i<us.length:=by rw[q.len];exact hi
  obtain⟨cs,hs⟩:=(show aZ h n v us from⟨m,l.tm⟩).sl;obtain⟨vv,kv,u⟩:=(show aZ h n v us from⟨m,l.tm⟩).node d;have hl:us[i].kids.length=t0[i].kids.length:=by rw[q.at_ d hi];exact wV _ _ _
  have J:=u.kids;refine ax ?_;refine θ<|ε<|γ U<|γ U<|γ U<|aB U U hs d<|σ U<|ξ U (u.ks _)<|al U J<|ay U U<|δ ?_;refine ae U (by simp[hl])<|aJ (F us h _ he l (lH.next (by rw[df hi];exact q)) (ρ.rf U))
 | succ r ih=>
  intro k us h G H he l q;have w:k<t0[i].kids.length:=by omega
  have d:i<us.length:=by rw[q.len];exact hi
  have y:i<m.length:=by rw[l.rows.len];exact d
  obtain⟨cs,hs⟩:=(show aZ h n v us from⟨m,l.tm⟩).sl;have j:=l.rows.get i d y;have L:=l.sl;have hl:us[i].kids.length=t0[i].kids.length:=by rw[q.at_ d hi];exact wV _ _ _
  have s:k<us[i].kids.length:=by omega
  have M:bj h true 5 (.p v.blk (v.off+i*5))=some (.a (bW us[i] m[i].1 m[i].2)):=by have:=L.jP (i:=i*5) (sz:=5) (by omega) (by omega);rw[sF l.rows.len d]at this;exact this
  have t:bj h false 1 (.p v.blk (v.off+i*5+4))=some m[i].2:=ka M rfl;have z:=j.k.get s 1;have N:us[i].kids[k]=t0[i].kids[k]:=by
   have e:=q.at_ d hi;have:us[i].kids=shl (λx=>x - (f:Int)) k t0[i].kids:=by rw[e];rfl
   simp only[this];exact J2 w
  rw[N]at z;have X:=E i hi t0[i].kids[k] (bK _);have Y:=D i hi;have O:m[i].2≠.ns:=by
   intro h;have:=j.k;rw[h]at this;rcases this.2 with g | ⟨⟨b,o,c,g,_⟩,_⟩
   ·have:=g.2;omega
   ·rcases g with g | g
    ·cases g.1
    ·cases g
  have A:m[i].2=.su m[i].2.blk 0 us[i].kids.length 1/\h m[i].2.blk=some (.c (cO .i64 us[i].kids) 3 0):=by
   rcases j.ko with g | g
   ·simp[g]at s
   ·exact g
  have P:n0.num<=m[i].2.blk.num:=by
   rcases j.kr with g | g
   ·exact absurd g O
   ·omega
  have R:m[i].2.off=0:=by rw[A.1];rfl
  refine ax ?_;refine θ<|ε<|γ U<|γ U<|γ U<|aB U U hs d<|σ U<|ξ U t<|al U j.k<|ay U U<|δ ?_;refine ah U (by simp<;>omega)<|Ω ?_;refine θ<|aj<|nO<|ak U<|ak U<|cK U U hs d<|bG U<|aC U t (κ.below j.k (φ _)) (κ.cH j.k)<|ak U<|ak U<|ak U<|cK U U hs d<|bG U<|aC U t (κ.below j.k (φ _)) (κ.cH j.k)<|ak U<|cK U U j.k s<|aC U z U (ff _ _)<|ak U<|yn U U ⟨by omega,by omega⟩<|cK U U j.k s<|eT U U A.2 (sX (i:=k) s _ (by rw[R];omega)) <| λh1 S b1=>bU (⟨⟨ω (by simp[Nat.testBit]),trivial⟩,⟨ω (by simp[Nat.testBit]),trivial⟩,⟨ω (by simp[Nat.testBit]),trivial⟩,trivial⟩) ?_;have B:bm m[i].2.blk h h1:=b1;have T:h1 m[i].2.blk=some (.c (cO .i64 (us[i].kids.set k (t0[i].kids[k] - f))) 3 0):=S;refine aA<|γ U<|aX U U ⟨by omega,by omega⟩<|γ U<|δ ?_;exact χ (ih (k+1) _ h1 (by omega) (by omega) (he.ab B P) (l.J1 d y s B T) (q.set d hi w)) (ρ.rf U)
def ahw(hlen:t0.length<100000)(hf:f<100000)(d:∀i (hi:i<t0.length),t0[i].kids.length<1000000)(g:∀i (hi:i<t0.length),∀k∈t0[i].kids,0<=k/\k<1000000)(j:n0.num<=lo.num){Q1:Ex->Env->Hf->K->Prop}
 (l:∀h E',Ext h0 n0 h n->TO h lo n v (t0.map (Ga f)) m->ρ [(k6,v)] E'->Q1 .normal E' h n):
 ∀(r i:Nat) (us:List Nd) (h:Hf),t0.length - i=r->i<=t0.length->Ext h0 n0 h n->TO h lo n v us m->lH (λx=>x - (f:Int)) t0 us i 0->WC C P6 [(k5,iN f),(k6,v),(k7,iN i)] h n (blk 0 Q1):=by
 intro r
 induction r with
 | zero=>
  intro i us h o hi he a b;have:i=t0.length:=by omega
  subst this;obtain⟨cs,hs⟩:=(show aZ h n v us from⟨m,a.tm⟩).sl;have c:=b.len;refine ax ?_;refine θ<|ε<|γ U<|γ U<|al U hs<|ay U U<|δ ?_;exact ae U (by simp[c])<|aJ (l h _ he (by have e:=b.done;subst e;exact a) (ρ.rf U))
 | succ r ih=>
  intro i us h o hi he a b;obtain⟨cs,hs⟩:=(show aZ h n v us from⟨m,a.tm⟩).sl;have c:=b.len;have p:i<t0.length:=by omega
  refine ax ?_;refine θ<|ε<|γ U<|γ U<|al U hs<|ay U U<|δ ?_;refine ah U (by simp<;>omega)<|Ω ?_;refine θ<|aj<|ε<|γ U<|δ ?_;refine aj<|χ (ahv hlen hf d g p j ?_ _ 0 us h rfl (by omega) he a b) (ρ.rf U);intro q h1 E1 s t c1 s1;refine bS s1 ?_;refine aA<|γ U<|aX U U ⟨by omega,by omega⟩<|γ U<|δ ?_;exact χ (ih (i+1) q h1 (by omega) (by omega) s t c1) (ρ.rf U)
end
def Bd.sub{ts:List Nd}(hb:Bd ts)(i j:Nat):Bd ((ts.drop i).take j):=by
 have key:∀x∈(ts.drop i).take j,∃k,∃a:k<ts.length,x=ts[k]:=by intro x c;obtain⟨k,a,rfl⟩:=iX (xK (qX c));exact⟨k,a,rfl⟩
 refine⟨by have:=hb.len;simp;omega,λk a=>?_,λk a=>?_,λk a=>?_,λk a=>?_⟩
 all_goals (obtain⟨q,b,e⟩:=key _ (bK a);rw[e])
 ·exact hb.gw q b
 ·exact hb.nm q b
 ·exact hb.vl q b
 ·exact hb.vn q b
def TG(h:Hf)(lo n:K)(v:V)(ts:List Nd):Prop:=∃m,jV h n v ts m/\(v=.ns\/lo.num<=v.blk.num)/\∀p∈m,(p.1=.ns\/lo.num<=p.1.blk.num)/\(p.2=.ns\/lo.num<=p.2.blk.num)
def TO.tg{h:Hf}{lo n:K}{v:V}{ts:List Nd}{m:List (V×V)}(a:TO h lo n v ts m){b:K}(hl:b.num<=lo.num):TG h b n v ts:=by refine⟨m,a.tm,a.ge.imp id λh=>by omega,λp hp=>?_⟩;obtain⟨j,hj,rfl⟩:=iX hp;have:=a.rows.get j (by rw[←a.rows.len];exact hj) hj;exact⟨this.vr.imp id λh=>by omega,this.kr.imp id λh=>by omega⟩
def TG.t{h:Hf}{lo n:K}{v:V}{ts:List Nd}(a:TG h lo n v ts):aZ h n v ts:=⟨a.choose,a.choose_spec.1⟩
def TG.skip{h h':Hf}{lo n n':K}{v:V}{ts:List Nd}(a:TG h lo n v ts)(hs:∀b:K,lo.num<=b.num->b.num<n.num->h' b=h b)(e:n.num<=n'.num):TG h' lo n' v ts:=by
 obtain⟨m,⟨hm,h1,h2⟩,d,c⟩:=a;have key:∀{v:V} {z len:Nat} {cs:List V},κ h n z v len cs->(v=.ns\/lo.num<=v.blk.num)->κ h' n' z v len cs:=by
  intro v z len cs a hl;refine κ.eD a ?_ e;rcases hl with g | g
  ·exact Or.inl g
  ·rcases κ.cP a with k | k
   ·exact Or.inl k
   ·exact Or.inr (hs _ g k)
 exact⟨m,⟨hm,key h1 d,λi hi=>⟨key (h2 i hi).1 (c _ (bK _)).1,key (h2 i hi).2 (c _ (bK _)).2⟩⟩,d,c⟩
def w70(b:Cd C){t:V}{ts:List Nd}{i:Nat}(ht:aZ h n t ts)(hb:Bd ts)(hi:i<ts.length)(s:∀j,j<ts.length->ord ts j=true)
 (u:∀v' h' n',Ext h n h' n'->TG h' n n' v' (part ts i)->Q v' h' n'):ν C (.f 70 [] []) [t,iN i] h n Q:=by
 refine ν.go b.f70 U ?_;have hlen:=hb.len;have L:=nW ts i;refine ε<|γ U<|δ ?_;have c:i<(fl ts ts.length).length:=by rw[kY];exact hi
 have w:(fl ts ts.length)[i]=fs ts i:=by rw[←gW c];exact EI ts hi
 have x:∀{v':V} {h':Hf} {n':K},aF h' n' .i64 v' (fl ts ts.length)->bj h' false 1 (.p v'.blk (v'.off+i*1))=some (.i .i64 (fs ts i:Nat)):=by intro v' h' n' a;have:=a.get c 1;rw[w]at this;exact this
 refine ε<|γ U<|ψ U U<|R8 b ht (by omega) hb.gw <| λM h1 n1 d g=>γ U<|aB U U g c<|ξ U (x g)<|γ U<|δ ?_;have l:=ht.ext d;obtain⟨cs,hs⟩:=l.sl;generalize hf:fs ts i=f at*;refine ε<|γ U<|γ U<|γ U<|gT U U (show(i:Int)+1=((i+1:Nat):Int) from rfl) ⟨by omega,by omega⟩<|A6 U hs U U ((show f<=i+1 by omega)) ((show i+1<=ts.length by omega)) <| λN y l2=>ψ U U<|JZ b (aZ.sub l (by omega) hs y) (hb.sub _ _) <| λvo m z A B D=>γ U<|δ ?_;have O:((ts.drop f).take (i+1 - f)).length=i+1 - f:=by simp;omega
 have o:=hb.sub f (i+1 - f);have E:∀q (F:q<((ts.drop f).take (i+1 - f)).length),∀k∈((ts.drop f).take (i+1 - f))[q].kids,0<=k/\k<1000000:=by
  intro q F k r;have e:((ts.drop f).take (i+1 - f))[q]=ts[f+q]'(by omega):=by simp
  rw[e]at r;have:=yG (by omega) (s (f+q) (by omega)) k r;omega
 refine θ<|ε<|γ U<|δ ?_;refine aj<|χ (ahw (h0:=h1) (n0:=n1) (lo:=n1) o.len (by omega) o.gw E (φ _) ?_ _ 0 _ z rfl (by omega) B D (lH.start _ _)) (ρ.rf U);intro G E4 H I J;refine bS J ?_;refine ε<|γ U<|γ U<|δ (Γ ⟨_,rfl,u vo G A (d.trans H) (by unfold part;rw[hf];exact I.tg d.1)⟩)
def iS(h:Hf)(n:K)(v:V)(l:List (List Nd)):Prop:=∃hs:List V,hs.length=l.length/\κ h n 1 v l.length hs/\∀i (h1:i<hs.length) (h2:i<l.length),aZ h n hs[i] l[i]
def parts(ts:List Nd):List (List Nd):=(fT ts (ts.length - 1)).map λk=>part ts k.toNat
def J6{l:List V}{i:Nat}(h:i<l.length):nth l i=some l[i]:=by
 induction l generalizing i with
 | nil=>simp at h
 | cons a l ih=>cases i with
  | zero=>rfl
  | succ i=>exact ih (by simpa using h)
def aZ.one{v:V}{ts:List Nd}(a:aZ h n v ts):v.one=true:=a.sl.choose_spec.one
def aZ.cells{v:V}{ts:List Nd}(a:aZ h n v ts):v.cells=[v]:=a.sl.choose_spec.cells
def ahx(u:Cd C){h0:Hf}{n0:K}{t:V}{ts:List Nd}{ks:List Int}(ht:aZ h0 n0 t ts)(hb:Bd ts)(z:0<ts.length)(G:∀j,j<ts.length->ord ts j=true)(O:ks=fT ts (ts.length - 1)){Q1:Ex->Env->Hf->K->Prop}
 (P:∀vo h n E',Ext h0 n0 h n->iS h n vo (ks.map λk=>part ts k.toNat)->ρ [(k3,vo)] E'->Q1 .normal E' h n):
 ∀(r i:Nat) (vo:V) (hs:List V) (h:Hf) (n:K),ks.length - i=r->i<=ks.length->hs.length=i->(∀j (h1:j<hs.length) (h2:j<ks.length),vo≠.ns/\aZ h vo.blk hs[j] (part ts ks[j].toNat))->Gr h0 n0 h n 23 1 vo i hs->WC C acs [(k0,t),(k3,vo),(k4,iN i)] h n (blk 0 Q1):=by
 have hlen:=hb.len;have w:ts.length - 1<ts.length:=by omega
 have q:ks=ts[ts.length - 1].kids:=by rw[O,jj w]
 have R:=hb.gw _ w;have H:=yG w (G _ w);rw[←q]at R H;intro r
 induction r with
 | zero=>
  intro i vo hs h n S hi hl A c;have:i=ks.length:=by omega
  subst this;obtain⟨m,tm⟩:=ht.ext c.ext;refine ax ?_;refine θ<|ε<|γ U<|γ U<|ψ U U<|Ml u tm (by omega) z <| λh1 n1 vv kv d _ _ x=>sI U U<|al U ((show da h1 n1 .i64 kv ks by rw[q];exact x.ext d))<|ay U U<|δ ?_;refine ae U (by simp)<|aJ (P vo h1 n1 _ (c.ext.trans d) ⟨hs,by simp[hl],by rw[kJ];exact c.sl.ext d,λj g1 T=>?_⟩ (ρ.rf U));rw[List.getElem_map];have:=A j g1 (by simpa using T);exact((this.2.ext (n':=n) ⟨c.lt.elim (λe=>absurd e this.1) eu,λ_ _=>rfl⟩)).ext d
 | succ r ih=>
  intro i vo hs h n S hi hl A c;have I:i<ks.length:=by omega
  obtain⟨m,tm⟩:=ht.ext c.ext;have hki:=H ks[i] (bK _);obtain⟨k',J⟩:∃k':Nat,ks[i]=(k':Int):=⟨ks[i].toNat,by omega⟩;refine ax ?_;refine θ<|ε<|γ U<|γ U<|ψ U U<|Ml u tm (by omega) z <| λh1 n1 vv kv d _ _ x=>sI U U<|al U ((show da h1 n1 .i64 kv ks by rw[q];exact x.ext d))<|ay U U<|δ ?_;refine ah U (by simp<;>omega)<|Ω ?_;have g1:=c.on d;obtain⟨m1,W⟩:=ht.ext g1.ext;have X:∀{kv:V} {h':Hf} {n':K},da h' n' .i64 kv ks->bj h' false 1 (.p kv.blk (kv.off+i*1))=some (iN k'):=by intro kv h' n' a;have:=a.get I 1;rw[J]at this;exact this
  have Y:=g1.ext;refine θ<|aj<|aA<|γ U<|γ U<|γ U<|ψ U U<|Ml u W (by omega) z <| λh2 L vv2 M l _ _ N=>sI U U<|γ U<|aB U U ((show da h2 L .i64 M ks by rw[q];exact N.ext l)) I<|ξ U (X (show da h2 L .i64 M ks by rw[q];exact N.ext l))<|ψ U U<|w70 u (ht.ext (Y.trans l)) hb (by omega) G <| λB h3 n3 s y=>eg (mW rfl y.t.cells y.t.one) <| λh4 n4 jZ Z o=>jF U ((((g1.on l).on s).on o).own) U (κ.whole (len:=1) (by omega) Z rfl) (by omega) (by omega) (by omega) (by omega) (by simp only[aD,y.t.one];rfl) ((((g1.on l).on s).on o).lt) <| λD h5 n5 o5 E oi F=>γ U<|δ ?_;have g4:=((g1.on l).on s).on o;have g5:=g4.app o5 E oi F;have n2':=l.1;have J7:=d.1;have CY:=s.1;have n4':=o.1;refine aA<|γ U<|aX U U ⟨by omega,by omega⟩<|γ U<|δ ?_;refine χ (ih (i+1) D (hs++[B]) h5 n5 (by omega) (by omega) (by simp[hl]) ?_ g5) (ρ.rf U);intro j qv CZ;have BL:D≠.ns:=by
   intro e;rw[e]at o5;rcases o5.2 with g | ⟨_,b,g,_⟩
   ·have:=g.2;omega
   ·cases g
  refine⟨BL,?_⟩;by_cases hj:j<hs.length
  ·rw[List.getElem_append_left hj];obtain⟨a1,a2⟩:=A j hj CZ;have fU:=c.lt.resolve_left a1;refine a2.ext ⟨by rw[E];omega,λk x=>?_⟩;rw[F k (by omega) (Or.inr (by omega)),o.2 k (by omega),s.2 k (by omega),l.2 k (by omega),d.2 k (by omega)]
  ·have bV:j=i:=by simp at qv;omega
   subst bV;have e0:(hs++[B])[j]=B:=by simp[←hl]
   rw[e0,J];refine(TG.skip (n':=D.blk) y (λb je dY=>?_) (by rw[E];omega)).t;rw[F b (by omega) (c.lt.imp id λh=>by omega),o.2 b (by omega)]
def Sb(a:Cd C){t:V}{ts:List Nd}(ht:aZ h n t ts)(hb:Bd ts)(b:0<ts.length)(c:∀j,j<ts.length->ord ts j=true)
 (d:∀v' h' n',Ext h n h' n'->iS h' n' v' (parts ts)->Q v' h' n'):ν C (.f 136 [] []) [t] h n Q:=by
 refine ν.go a.f136 U ?_;refine ε<|γ U<|δ ?_;refine ε<|γ U<|δ ?_;refine θ<|ε<|γ U<|δ ?_;refine aj<|χ (ahx a ht hb b c rfl ?_ _ 0 .ns [] h n rfl (by omega) U (λj h1=>by simp at h1) (Gr.ns (Ext.refl h n))) (ρ.rf U);intro vo h1 n1 E1 e l1 s1;refine bS s1 ?_;refine ε<|γ U<|γ U<|δ (Γ ⟨_,rfl,d vo h1 n1 e l1⟩)
end
end Go.Ev.X
namespace Go.Ev.X
open Go Go.Ev
def nY(ts:List Nd):List Int->Int->Int
 | [],next=>next
 | k::l,_=>nY ts l (fs ts k.toNat)
def EU{ts:List Nd}:∀{l:List Int} {next:Int},eh (fs ts) l next=true->nY ts l next<=next/\∀k∈l,nY ts l next<=fs ts k.toNat/\0<=k/\k<next:=by
 intro l
 induction l with
 | nil=>intro next _;exact⟨Int.le_refl _,λk b=>by cases b⟩
 | cons a l ih=>
  intro next c;simp only[eh]at c;split at c
  ·cases c
  ·rename_i d;have h1:=ih c;have h2:=nW ts a.toNat;simp only[nY];refine⟨by omega,λk b=>?_⟩;cases b with
   | head=>exact⟨h1.1,by omega,by omega⟩
   | tail _ b=>have:=h1.2 k b;exact⟨this.1,this.2.1,by omega⟩
def ahA{ts:List Nd}:∀{l:List Int} {next:Int},eh (fs ts) l next=true->∀p:Int,nY ts l next<=p->p<next->∃k∈l,(fs ts k.toNat:Int)<=p/\p<=k:=by
 intro l
 induction l with
 | nil=>intro next _ p h1 h2;simp only[nY]at h1;omega
 | cons a l ih=>
  intro next b p h1 h2;simp only[eh]at b;split at b
  ·cases b
  ·rename_i f;simp only[nY]at h1;by_cases c:(fs ts a.toNat:Int)<=p
   ·exact⟨a,by simp,c,by omega⟩
   ·obtain⟨k,d,e⟩:=ih b p h1 (by omega);exact⟨k,by simp[d],e⟩
def ahB{ts:List Nd}(l:List Int)(k next:Int):nY ts (l++[k]) next=fs ts k.toNat:=by
 induction l generalizing next with
 | nil=>rfl
 | cons a l ih=>exact ih _
def J8{ts:List Nd}{i:Nat}(a:ord ts i=true):(fs ts i:Int)=nY ts (fT ts i).reverse i:=by
 rw[RF];cases h:fT ts i with
 | nil=>rfl
 | cons k ks=>simp only[a,if_true,List.reverse_cons];rw[ahB]
def ahC{ts:List Nd}:∀(i:Nat),(∀j,j<=i->ord ts j=true)->∀p,fs ts i<=p->p<=i->fs ts i<=fs ts p:=by
 intro i
 induction i using Nat.strongRecOn with
 | _ i ih=>
  intro a p h1 h2;by_cases hp:p=i
  ·rw[hp];exact φ _
  ·have g:=J8 (a i (φ i));have b:eh (fs ts) (fT ts i).reverse i=true:=a i (φ i);obtain⟨k,c,d,h⟩:=ahA b (p:Int) (by omega) (by omega);have e:=(EU b).2 k c;obtain⟨k',rfl⟩:∃k':Nat,k=(k':Int):=⟨k.toNat,by omega⟩;have f:((k':Nat):Int).toNat=k':=rfl;rw[f]at d e;have:=ih k' (by omega) (λj hj=>a j (by omega)) p (by omega) (by omega);omega
def ahD{ts:List Nd}{f:Nat}{g:Nat->Nat}:∀{l:List Int} {next:Int},(f:Int)<=next->(∀k∈l,(f:Int)<=k->k<next->f<=fs ts k.toNat/\g (k - f).toNat=fs ts k.toNat - f)->(f:Int)<=nY ts l next->eh (fs ts) l next=true->eh g (l.map λk=>k - f) (next - f)=true:=by
 intro l
 induction l with
 | nil=>intro next _ _ _ _;rfl
 | cons a l ih=>
  intro next i c hl b;have d:=b;simp only[eh]at b;split at b
  ·cases b
  ·rename_i j;have hle:=(EU d).2 a (by simp);simp only[nY]at hl hle;have m:=nW ts a.toNat;have h1:=EU b;have h2:=c a (by simp) (by omega) (by omega);simp only[gB,eh];rw[Θ (by omega),h2.2];have:=ih (next:=(fs ts a.toNat:Int)) (by omega) (λk e h n=>c k (by simp[e]) h (by omega)) hl b;rw[show((fs ts a.toNat - f:Nat):Int)=(fs ts a.toNat:Int) - f by omega];exact this
def Sc{ts:List Nd}{i j:Nat}(hi:i<ts.length)(hj:j<(part ts i).length):(part ts i)[j]=Ga (fs ts i) (ts[fs ts i+j]'(by rw[yI hi]at hj;omega)):=by simp[part]
def Sd{ts:List Nd}{i j:Nat}(hi:i<ts.length)(hj:j<(part ts i).length):fT (part ts i) j=(fT ts (fs ts i+j)).map λk=>k - (fs ts i:Int):=by
 have h:fs ts i+j<ts.length:=by rw[yI hi]at hj;have:=nW ts i;omega
 rw[jj hj,Sc hi hj,jj h];rfl
def ahE{ts:List Nd}{i:Nat}(hi:i<ts.length)(d:∀j,j<ts.length->ord ts j=true):∀j,j<(part ts i).length->ord (part ts i) j=true/\fs (part ts i) j=fs ts (fs ts i+j) - fs ts i/\fs ts i<=fs ts (fs ts i+j):=by
 have hle:=nW ts i;intro j
 induction j using Nat.strongRecOn with
 | _ j ih=>
  intro hj;have r:fs ts i+j<=i:=by rw[yI hi]at hj;omega
  have s:=ahC i (λq v=>d q (by omega)) (fs ts i+j) (by omega) r;have m:=d (fs ts i+j) (by omega);have n:eh (fs ts) (fT ts (fs ts i+j)).reverse (fs ts i+j:Nat)=true:=m;have o:=J8 m;have t:=EU n;have p:ord (part ts i) j=true:=by
   unfold ord;rw[Sd hi hj,←List.map_reverse];have:=ahD (ts:=ts) (f:=fs ts i) (g:=fs (part ts i)) (next:=((fs ts i+j:Nat):Int)) (by omega) (λk b h1 h2=>?_) (by rw[←o];omega) n
   ·rw[show(j:Int)=((fs ts i+j:Nat):Int) - (fs ts i:Int) by omega];exact this
   ·have:=ih (k - (fs ts i:Int)).toNat (by omega) (by omega);have e:fs ts i+(k - (fs ts i:Int)).toNat=k.toNat:=by omega
    rw[e]at this;exact⟨this.2.2,this.2.1⟩
  refine⟨p,?_,s⟩;have w:(fs (part ts i) j:Int)=(fs ts (fs ts i+j):Int) - fs ts i:=by
   rw[J8 p,o,Sd hi hj,←List.map_reverse];have key:∀(l:List Int) (c:Int),(∀k∈l,(fs ts i:Int)<=k/\k<(fs ts i+j:Nat))->nY (part ts i) (l.map λk=>k - (fs ts i:Int)) (c - fs ts i)=nY ts l c - fs ts i:=by
    intro l
    induction l with
    | nil=>intro c _;rfl
    | cons a l u=>
     intro c h;have x:=h a (by simp);have:=ih (a - (fs ts i:Int)).toNat (by omega) (by omega);have e:fs ts i+(a - (fs ts i:Int)).toNat=a.toNat:=by omega
     rw[e]at this;simp only[gB,nY,this.2.1];rw[←u (fs ts a.toNat) (λk b=>h k (by simp[b]))];congr 1;omega
   have:=key (fT ts (fs ts i+j)).reverse ((fs ts i+j:Nat):Int) (λk b=>by have h1:=t.2 k b;have h2:=nW ts k.toNat;omega)
   rw[←this];congr 1;omega
  omega
section
section
variable {C:Nat->Option aI}{E:Env}{h:Hf}{n:K}{q:Env->Hf->K->Prop}{l:List AO}{Ξ:Nat}{k:V->Hf->K->Prop}
def Se{e z bytes m len:Nat}{i new cs:List V}{s x:au}{b:K}{v:V}(hs:ge E s=some (.sl b 0 len len))(f:κ h n z (.sl b 0 len len) len cs)(j:ge E x=some v)(a:κ h n z v m new)(h1:(len+m)*bytes<=1000000000)(h2:bytes<=100000)(o:len+m<=1000000000)(hm:0<m)
 (p:∀v' h' n',ea h' e z v' (len+m) (cs++new)->v'.blk=n->n'.num=n.num+1->Ext h n h' n'->k v' h' n'):SO C (.app e z bytes i false s x) E h n k:=
 pj (λ_ _ _ _=>rfl) λT H g d=>by
  have r:(!(Nat.ble (Nat.mul (Nat.add (V.len (.sl b 0 len len)) m) bytes) 1000000000&&Nat.ble bytes 100000&&Nat.ble (Nat.add (V.len (.sl b 0 len len)) m) 1000000000))=false:=room (l:=len) (m:=m) (bytes:=bytes) h1 h2 o;have hb:Nat.ble (Nat.add len m) len=false:=by rw[iK];simp<;>omega
  refine⟨.su n 0 (len+m) z,H.put (some (.c (cs++new) e 0)) n,n.succ,?_,?_⟩
  ·simp only[simple,g.ge hs,g.ge j,a.elems d,cond_false,r7,r,hb,f.elems d,js];rfl
  ·rw[hY,d];have hl:(cs++new).length=(len+m)*z:=by rw[gp,f.1,a.1,fM]
   exact p _ _ _ ⟨hl,Or.inr ⟨by omega,n,rfl,eQ _ _ _⟩⟩ rfl (K.eF n) ((Ext.refl h n).new _)
def Ow(h:Hf)(n:K)(e z:Nat)(v:V)(len:Nat)(cs:List V):Prop:=
 (ea h e z v len cs/\(v=.ns\/v.blk.num<n.num))\/(∃b,v=.sl b 0 0 0/\len=0/\cs=[]/\κ h n z v 0 [])
def Ow.sl{e z len:Nat}{v:V}{cs:List V}(a:Ow h n e z v len cs):κ h n z v len cs:=by
 rcases a with a | ⟨b,h1,h2,c,d⟩
 ·exact a.1.sl a.2
 ·rw[h2,c];exact d
def Ow.ext{h':Hf}{n':K}{e z len:Nat}{v:V}{cs:List V}(a:Ow h n e z v len cs)(x:Ext h n h' n'):Ow h' n' e z v len cs:=by
 rcases a with a | ⟨b,h1,h2,c,d⟩
 ·exact Or.inl ⟨a.1.ext (a.2.imp id λg=>x.2 _ g),a.2.imp id λg=>ep g x.1⟩
 ·exact Or.inr ⟨b,h1,h2,c,d.ext x⟩
def ahG{e z bytes m len:Nat}{r new cs:List V}{s x:au}{o v:V}(hs:ge E s=some o)(d:Ow h n e z o len cs)(i:ge E x=some v)(a:κ h n z v m new)(h1:(len+m)*bytes<=1000000000)(h2:bytes<=100000)(j:len+m<=1000000000)(hm:0<m)(t:aD new=true)
 (p:∀v' h' n',Ow h' n' e z v' (len+m) (cs++new)->v'.blk=n->n'.num=n.num+1->(∀b:K,b.num<n.num->(o=.ns\/b.num≠o.blk.num)->h' b=h b)->k v' h' n'):SO C (.app e z bytes r false s x) E h n k:=by
 rcases d with d | ⟨b,rfl,rfl,rfl,u⟩
 ·refine HQ hs d.1 i a h1 h2 j hm t d.2 λv' h' n' g1 c f g=>p v' h' n' (Or.inl ⟨g1,Or.inr (by rw[c];omega)⟩) c f g
 ·refine Se hs u i a h1 h2 j hm λv' h' n' g1 c f g=>p v' h' n' (Or.inl ⟨g1,Or.inr (by rw[c];omega)⟩) c f λb hb _=>g.2 b hb
def Sf{c:Made}{P:List PR}{B:List PB}{i:Nat}{d:K}{e z bytes m len:Nat}{f new cs:List V}{s x:au}{o v:V}(hs:ge E s=some o)(g:Ow (fE h Ξ c) n e z o len cs)(j:ge E x=some v)(a:κ (fE h Ξ c) n z v m new)(h1:(len+m)*bytes<=1000000000)(h2:bytes<=100000)(p:len+m<=1000000000)(hm:0<m)(r:aD new=true)
 (t:∀v' h' n',Ow h' n' e z v' (len+m) (cs++new)->v'.blk=n->n'.num=n.num+1->(∀b:K,b.num<n.num->(o=.ns\/b.num≠o.blk.num)->h' b=fE h Ξ c b)->WD C l (i+1) ((d,v')::E) (jQ h h' Ξ c) n' c P (⟨i,Ξ,h,jQ h h' Ξ c⟩::B) q):WD C (⟨some d,.app e z bytes f false s x,none,Ξ⟩::l) i E h n c P B q:=AX U (ahG hs g j a h1 h2 p hm r t)
def BM{d:K}{e z bytes m:Nat}{p new:List V}{s x:au}{b:K}{v:V}(hs:ge E s=some (.sl b 0 0 0))(c:κ h n z (.sl b 0 0 0) 0 [])(f:ge E x=some v)(a:κ h n z v m new)(h1:m*bytes<=1000000000)(h2:bytes<=100000)(A:m<=1000000000)
 (g:∀v' h' n',Ow h' n' e z v' m new->Ext h n h' n'->(v'=.ns\/v'.blk=b\/v'.blk=n)->WO C l ((d,v')::E) h' n' q):WO C (⟨some d,.app e z bytes p false s x,none,Ξ⟩::l) E h n q:=by
 by_cases hm:m=0
 ·subst hm;refine cr (pj (λ_ _ _ _=>rfl) λT H i j=>?_);have r:(!(Nat.ble (Nat.mul (Nat.add (V.len (.sl b 0 0 0)) 0) bytes) 1000000000&&Nat.ble bytes 100000&&Nat.ble (Nat.add (V.len (.sl b 0 0 0)) 0) 1000000000))=false:=room (l:=0) (m:=0) (bytes:=bytes) (by simp) h2 (by omega);have t:new=[]:=by have:=a.1;simpa using this
  subst t;refine⟨.sl b 0 0 0,H,n,?_,?_⟩
  ·have hb:Nat.ble (Nat.add 0 0) 0=true:=rfl;have u:Nat.beq 0 0=true:=rfl;simp only[simple,i.ge hs,i.ge f,a.elems j,cond_false,r7,r,hb,u,cond_true]
  ·rw[j];exact g _ _ _ (Or.inr ⟨b,rfl,rfl,rfl,c⟩) (Ext.refl h n) (Or.inr (Or.inl U))
 ·refine cr (Se hs c f a (by rw[eW];exact h1) h2 (by omega) (by omega) λv' h' n' g1 o B w=>g v' h' n' (Or.inl ⟨by rw[eW]at g1;exact g1,Or.inr (by rw[o];omega)⟩) w (Or.inr (Or.inr o)))
end
attribute [local irreducible] WC WO WD SO ν
variable {C:Nat->Option aI}{h:Hf}{n:K}{Q:V->Hf->K->Prop}
section
variable {x y:Nd}{vx kx vy ky:V}{bx by':K}
end
section
variable {x y:Nd}{vx kx vy ky:V}{bx by':K}{h0:Hf}{n0:K}
end
structure Rt(ts:List Nd):Prop where
 bd:Bd ts
 pos:0<ts.length
 ord:∀j,j<ts.length->ord ts j=true
def Rt.part{ts:List Nd}(r:Rt ts){i:Nat}(hi:i<ts.length):Rt (part ts i):=by
 have c:=yI hi;have hle:=nW ts i;have key:∀j (hj:j<(X.part ts i).length),∃k,∃a:k<ts.length,(X.part ts i)[j]=Ga (fs ts i) ts[k]:=λj hj=>⟨_,_,Sc hi hj⟩;refine⟨⟨by have:=r.bd.len;omega,λk a=>?_,λk a=>?_,λk a=>?_,λk a=>?_⟩,by omega,λj hj=>(ahE hi r.ord j hj).1⟩
 all_goals (obtain⟨q,b,e⟩:=key k a;rw[e])
 ·simp only[Ga,kJ];exact r.bd.gw q b
 ·exact r.bd.nm q b
 ·exact r.bd.vl q b
 ·exact r.bd.vn q b
def BN{ts:List Nd}(h:0<ts.length):(parts ts).length=(ts[ts.length - 1]'(by omega)).kids.length:=by simp[parts,jj (show ts.length - 1<ts.length by omega)]
def Rt.parts{ts:List Nd}(r:Rt ts){j:Nat}(hj:j<(parts ts).length):Rt (X.parts ts)[j]/\(X.parts ts)[j].length<ts.length:=by
 have a:=r.pos;have hl:=r.pos;have h1:ts.length - 1<ts.length:=by omega
 unfold X.parts at hj ⊢;rw[kJ]at hj;rw[List.getElem_map];have b:=oI (r.ord _ h1) ((fT ts (ts.length - 1))[j]) (bK _);have hi:((fT ts (ts.length - 1))[j]).toNat<ts.length:=by omega
 refine⟨r.part hi,?_⟩;rw[yI hi];omega
def iS.ext{h h':Hf}{n n':K}{v:V}{l:List (List Nd)}(a:iS h n v l)(e:Ext h n h' n'):iS h' n' v l:=by obtain⟨hs,h1,h2,b⟩:=a;exact⟨hs,h1,h2.ext e,λi g1 c=>(b i g1 c).ext e⟩
end
end Go.Ev.X
namespace Go.Ev.X
open Go Go.Ev
attribute [local irreducible] WC WO WD SO ν
section
variable {C:Nat->Option aI}{h:Hf}{n:K}{Q:V->Hf->K->Prop}
abbrev ahI:S:=[77,97,112,60]
def yJ(s:S):Nat->Nat->Nat->Nat
 | 0,_,c=>c
 | m+1,i,c=>if i+4<=s.length then yJ s m (i+1) (if (s.drop i).take 4=ahI then c+1 else c) else c
def calm(s:S):Bool:=decide (yJ s (s.length+1) 0 0<=4)
def ahJ{s:S}(hl:s.length<10000000):∀(m i c:Nat),s.length+1 - i=m->i<=s.length+1->c<=i->Q (.b (decide (yJ s m i c<=4))) h n->WC C aa8 [(k0,st s),(k3,iN c),(k4,iN i)] h n (blk 0 (sq C aa9 (fq [.t k2] Q))):=by
 intro m
 induction m with
 | zero=>
  intro i c hm hi g a;refine ax ?_;refine θ<|ε<|γ U<|aX U U ⟨by omega,by omega⟩<|γ U<|bN U<|mS U U<|δ ?_;refine ae U (by simp<;>omega)<|aJ ?_;have e:decide ((c:Int)<=4)=decide (c<=4):=decide_eq_decide.2 (by omega);rw[yJ,←e]at a;refine ε<|γ U<|mS U U<|γ U<|δ (Γ ⟨_,rfl,a⟩)
 | succ m ih=>
  intro i c hm hi g a;refine ax ?_;refine θ<|ε<|γ U<|aX U U ⟨by omega,by omega⟩<|γ U<|bN U<|mS U U<|δ ?_;by_cases f:i+4<=s.length
  ·rw[yJ,ao f]at a;refine ah U (by simp<;>omega)<|Ω ?_;refine θ<|aj<|ε<|γ U<|γ U<|γ U<|gT U U (show(i:Int)+4=((i+4:Nat):Int) from rfl) ⟨by omega,by omega⟩<|wz U U U ((show i<=i+4 by omega)) f<|eC (b:=[77,97,112,60]) U U<|δ ?_;have e:i+4 - i=4:=by omega
   rw[e];refine cm U (λd=>?_) (λd=>Ω ?_)
   ·simp only[aW]at d;rw[ao d]at a;refine aA<|γ U<|aX U U ⟨by omega,by omega⟩<|γ U<|δ ?_;refine aA<|γ U<|aX U U ⟨by omega,by omega⟩<|γ U<|δ ?_;exact χ (ih (i+1) (c+1) (by omega) (by omega) (by omega) a) (ρ.rf U)
   ·simp only[cg]at d;rw[Θ d]at a;refine aA<|γ U<|aX U U ⟨by omega,by omega⟩<|γ U<|δ ?_;exact χ (ih (i+1) c (by omega) (by omega) (by omega) a) (ρ.rf U)
  ·rw[yJ,Θ f]at a;refine ae U (by simp<;>omega)<|aJ ?_;have e:decide ((c:Int)<=4)=decide (c<=4):=decide_eq_decide.2 (by omega);rw[←e]at a;refine ε<|γ U<|mS U U<|γ U<|δ (Γ ⟨_,rfl,a⟩)
def BO(a:Cd C){s:S}(hl:s.length<10000000)(c:Q (.b (calm s)) h n):ν C (.f 34 [] []) [st s] h n Q:=by refine ν.go a.f34 U ?_;refine ε<|γ U<|δ ?_;refine ε<|γ U<|δ ?_;refine θ<|ε<|γ U<|δ ?_;exact aj<|χ (ahJ hl _ 0 0 rfl (by omega) (by omega) c) (ρ.rf U)
def rJ(v:S×S):Bool:=!decide (200<v.1.length)&&(!decide (200<v.2.length)&&calm v.2)
def BP(l:List (S×S)):Bool:=l.all rJ&&decide (l.length<=8)
def ahK(g:Cd C){v:V}{l:List (S×S)}(hv:du h n v l)(hlen:l.length<10000000)(j:∀v∈l,v.1.length<10000000/\v.2.length<10000000):∀(m i:Nat),l.length - i=m->i<=l.length->Q (.b ((l.drop i).all rJ&&decide (l.length<=8))) h n->WC C Pv [(k0,v),(k3,iN i)] h n (blk 0 (sq C Pw (fq [.t k2] Q))):=by
 intro m
 induction m with
 | zero=>
  intro i hm hi c;have:i=l.length:=by omega
  subst this;refine ax ?_;refine θ<|ε<|γ U<|γ U<|al U hv<|ay U U<|δ ?_;refine ae U (by simp)<|aJ ?_;have e:decide (l.length<=8)=decide ((l.length:Int)<=8):=by simp;omega
  rw[jw,List.all_nil,xM,e]at c;refine ε<|γ U<|al U hv<|mS U U<|γ U<|δ (Γ ⟨_,rfl,c⟩)
 | succ m ih=>
  intro i hm hi c;have a:i<l.length:=by omega
  rw[eo a,List.all_cons]at c;have k:=j _ (bK a);have g1:=hv.name a 1;have d:=hv.sort a 1;generalize hp:l[i]=p at*;refine ax ?_;refine θ<|ε<|γ U<|γ U<|al U hv<|ay U U<|δ ?_;refine ah U (by simp<;>omega)<|Ω<|θ<|aj ?_;have no:rJ p=false->WC C aba [] h n (blk 1 (sq C abb (sq C (.loop H6) (blk 0 (sq C Pw (fq [.t k2] Q)))))):=by intro hs;rw[hs]at c;refine ε<|γ U<|δ (Γ ⟨_,rfl,c⟩)
  by_cases h1:200<p.1.length
  ·refine ε<|γ U<|γ U<|aB U U hv a<|σ U<|ξ U g1<|bN U<|bC U U<|γ U<|μ U (by simp<;>omega)<|μ U (by simp<;>omega)<|μ U (by simp<;>omega)<|μ U (by simp<;>omega)<|μ U (by simp<;>omega)<|μ U (by simp<;>omega)<|μ U (by simp<;>omega)<|aU U (by simp<;>omega) U<|γ U<|μ U U<|μ U U<|μ U U<|μ U U<|μ U U<|μ U U<|μ U U<|aU U U U<|δ ?_;exact ah U U<|χ (no (by simp[rJ,h1])) trivial
  by_cases h2:200<p.2.length
  ·refine ε<|γ U<|γ U<|aB U U hv a<|σ U<|ξ U g1<|bN U<|bC U U<|γ U<|ζ U (by simp<;>omega)<|γ U<|ζ U (by simp<;>omega)<|γ U<|ζ U (by simp<;>omega)<|aB U U hv a<|ζ U (by simp<;>omega)<|σ U<|ζ U (by simp<;>omega)<|ξ U d<|ζ U (by simp<;>omega)<|bN U<|ζ U (by simp<;>omega)<|bC U U<|aL U (by simp<;>omega) U<|γ U<|μ U (by simp<;>omega)<|μ U (by simp<;>omega)<|μ U (by simp<;>omega)<|μ U (by simp<;>omega)<|μ U (by simp<;>omega)<|μ U (by simp<;>omega)<|μ U (by simp<;>omega)<|aU U (by simp<;>omega) U<|δ ?_;exact ah U U<|χ (no (by simp[rJ,h2])) trivial
  refine ε<|γ U<|γ U<|aB U U hv a<|σ U<|ξ U g1<|bN U<|bC U U<|γ U<|ζ U (by simp<;>omega)<|γ U<|ζ U (by simp<;>omega)<|γ U<|ζ U (by simp<;>omega)<|aB U U hv a<|ζ U (by simp<;>omega)<|σ U<|ζ U (by simp<;>omega)<|ξ U d<|ζ U (by simp<;>omega)<|bN U<|ζ U (by simp<;>omega)<|bC U U<|aL U (by simp<;>omega) U<|γ U<|ζ U (by simp<;>omega)<|γ U<|ζ U (by simp<;>omega)<|γ U<|ζ U (by simp<;>omega)<|aB U U hv a<|ζ U (by simp<;>omega)<|σ U<|ζ U (by simp<;>omega)<|ξ U d<|ζ U (by simp<;>omega)<|ψ U U<|BO g k.2<|ζ U (by simp<;>omega)<|bZ U<|aL U (by simp<;>omega) U<|δ ?_;cases f:calm p.2 with
  | false=>exact ah U U<|χ (no (by simp[rJ,f])) trivial
  | true=>
   refine ae U U<|Ω ?_;have hs:rJ p=true:=by simp[rJ,f];omega
   rw[hs,xM]at c;refine aA<|γ U<|aX U U ⟨by omega,by omega⟩<|γ U<|δ ?_;exact χ (ih (i+1) (by omega) (by omega) c) (ρ.rf U)
def w35(a:Cd C){v:V}{l:List (S×S)}(hv:du h n v l)(hlen:l.length<10000000)(c:∀v∈l,v.1.length<10000000/\v.2.length<10000000)(d:Q (.b (BP l)) h n):ν C (.f 35 [] []) [v] h n Q:=by refine ν.go a.f35 U ?_;refine ε<|γ U<|δ ?_;refine θ<|ε<|γ U<|δ ?_;exact aj<|χ (ahK a hv hlen c _ 0 rfl (by omega) d) (ρ.rf U)
structure zF(ts:List Nd):Prop where
 len:ts.length<10000000
 gw:∀i (hi:i<ts.length),ts[i].kids.length<10000000
 nm:∀i (hi:i<ts.length),ts[i].name.length<10000000/\ts[i].sort.length<10000000
 vl:∀i (hi:i<ts.length),ts[i].vars.length<10000000
 vn:∀i (hi:i<ts.length),∀v∈ts[i].vars,v.1.length<10000000/\v.2.length<10000000
def m6(x:Nd):Bool:=!decide (200<x.name.length)&&(!decide (200<x.sort.length)&&(calm x.name&&(calm x.sort&&(!decide (12<x.kids.length)&&BP x.vars))))
def kj(ts:List Nd):Bool:=!(decide (120<ts.length)&&!decide (ts.length=2001))&&ts.all m6
def ahL(f:Cd C){t:V}{ts:List Nd}(ht:aZ h n t ts)(hb:zF ts):∀(m i:Nat),ts.length - i=m->i<=ts.length->Q (.b ((ts.drop i).all m6)) h n->WC C Pt [(k0,t),(k3,iN i)] h n (blk 0 (sq C Pu (fq [.t k2] Q))):=by
 intro m;obtain⟨cs,hs⟩:=ht.sl;have hlen:=hb.len
 induction m with
 | zero=>
  intro i hm hi g;have:i=ts.length:=by omega
  subst this;refine ax ?_;refine θ<|ε<|γ U<|γ U<|al U hs<|ay U U<|δ ?_;refine ae U (by simp)<|aJ ?_;refine ε<|γ U<|δ (Γ ⟨_,rfl,by simpa using g⟩)
 | succ m ih=>
  intro i hm hi g;have c:i<ts.length:=by omega
  rw[eo c,List.all_cons]at g;obtain⟨vv,kv,j⟩:=ht.node c;have b1:=hb.nm i c;have b2:=hb.gw i c;have b3:=hb.vl i c;have b4:=hb.vn i c;have e:=j.name 1;have ls:=j.sort 1;have lk:=j.ks 1;have lv:=j.vs 1;have ik:=j.kids;have l:=j.vars;generalize hp:ts[i]=x at*;refine ax ?_;refine θ<|ε<|γ U<|γ U<|al U hs<|ay U U<|δ ?_;refine ah U (by simp<;>omega)<|Ω<|θ<|aj ?_;have no:m6 x=false->WC C aa6 [] h n (blk 1 (sq C aa7 (sq C (.loop H5) (blk 0 (sq C Pu (fq [.t k2] Q)))))):=by intro hs;rw[hs]at g;refine ε<|γ U<|δ (Γ ⟨_,rfl,g⟩)
  by_cases g0:200<x.name.length
  ·refine ε<|γ U<|γ U<|aB U U hs c<|σ U<|ξ U e<|bN U<|bC U U<|γ U<|μ U (by simp<;>omega)<|μ U (by simp<;>omega)<|μ U (by simp<;>omega)<|μ U (by simp<;>omega)<|μ U (by simp<;>omega)<|μ U (by simp<;>omega)<|μ U (by simp<;>omega)<|aU U (by simp<;>omega) U<|γ U<|μ U U<|μ U U<|μ U U<|μ U U<|μ U U<|μ U U<|μ U U<|aU U U U<|γ U<|μ U U<|μ U U<|μ U U<|μ U U<|μ U U<|μ U U<|μ U U<|aU U U U<|γ U<|μ U U<|μ U U<|μ U U<|μ U U<|μ U U<|μ U U<|μ U U<|aU U U U<|γ U<|μ U U<|μ U U<|μ U U<|μ U U<|μ U U<|μ U U<|μ U U<|aU U U U<|δ ?_;exact ah U U<|χ (no (by simp[m6,g0])) trivial
  by_cases g1:200<x.sort.length
  ·refine ε<|γ U<|γ U<|aB U U hs c<|σ U<|ξ U e<|bN U<|bC U U<|γ U<|ζ U (by simp<;>omega)<|γ U<|ζ U (by simp<;>omega)<|γ U<|ζ U (by simp<;>omega)<|aB U U hs c<|ζ U (by simp<;>omega)<|σ U<|ζ U (by simp<;>omega)<|ξ U ls<|ζ U (by simp<;>omega)<|bN U<|ζ U (by simp<;>omega)<|bC U U<|aL U (by simp<;>omega) U<|γ U<|μ U (by simp<;>omega)<|μ U (by simp<;>omega)<|μ U (by simp<;>omega)<|μ U (by simp<;>omega)<|μ U (by simp<;>omega)<|μ U (by simp<;>omega)<|μ U (by simp<;>omega)<|aU U (by simp<;>omega) U<|γ U<|μ U U<|μ U U<|μ U U<|μ U U<|μ U U<|μ U U<|μ U U<|aU U U U<|γ U<|μ U U<|μ U U<|μ U U<|μ U U<|μ U U<|μ U U<|μ U U<|aU U U U<|γ U<|μ U U<|μ U U<|μ U U<|μ U U<|μ U U<|μ U U<|μ U U<|aU U U U<|δ ?_;exact ah U U<|χ (no (by simp[m6,g1])) trivial
  cases a:calm x.name with
  | false=>
   refine ε<|γ U<|γ U<|aB U U hs c<|σ U<|ξ U e<|bN U<|bC U U<|γ U<|ζ U (by simp<;>omega)<|γ U<|ζ U (by simp<;>omega)<|γ U<|ζ U (by simp<;>omega)<|aB U U hs c<|ζ U (by simp<;>omega)<|σ U<|ζ U (by simp<;>omega)<|ξ U ls<|ζ U (by simp<;>omega)<|bN U<|ζ U (by simp<;>omega)<|bC U U<|aL U (by simp<;>omega) U<|γ U<|ζ U (by simp<;>omega)<|γ U<|ζ U (by simp<;>omega)<|γ U<|ζ U (by simp<;>omega)<|aB U U hs c<|ζ U (by simp<;>omega)<|σ U<|ζ U (by simp<;>omega)<|ξ U e<|ζ U (by simp<;>omega)<|ψ U U<|BO f b1.1<|ζ U (by simp<;>omega)<|bZ U<|aL U (by simp<;>omega) U<|γ U<|μ U (by simp[a])<|μ U (by simp[a])<|μ U (by simp[a])<|μ U (by simp[a])<|μ U (by simp[a])<|μ U (by simp[a])<|μ U (by simp[a])<|aU U (by simp[a]) U<|γ U<|μ U U<|μ U U<|μ U U<|μ U U<|μ U U<|μ U U<|μ U U<|aU U U U<|γ U<|μ U U<|μ U U<|μ U U<|μ U U<|μ U U<|μ U U<|μ U U<|aU U U U<|δ ?_;exact ah U U<|χ (no (by simp[m6,a])) trivial
  | true=>
  cases d:calm x.sort with
  | false=>
   refine ε<|γ U<|γ U<|aB U U hs c<|σ U<|ξ U e<|bN U<|bC U U<|γ U<|ζ U (by simp<;>omega)<|γ U<|ζ U (by simp<;>omega)<|γ U<|ζ U (by simp<;>omega)<|aB U U hs c<|ζ U (by simp<;>omega)<|σ U<|ζ U (by simp<;>omega)<|ξ U ls<|ζ U (by simp<;>omega)<|bN U<|ζ U (by simp<;>omega)<|bC U U<|aL U (by simp<;>omega) U<|γ U<|ζ U (by simp<;>omega)<|γ U<|ζ U (by simp<;>omega)<|γ U<|ζ U (by simp<;>omega)<|aB U U hs c<|ζ U (by simp<;>omega)<|σ U<|ζ U (by simp<;>omega)<|ξ U e<|ζ U (by simp<;>omega)<|ψ U U<|BO f b1.1<|ζ U (by simp<;>omega)<|bZ U<|aL U (by simp<;>omega) U<|γ U<|ζ U (by simp[a])<|γ U<|ζ U (by simp[a])<|γ U<|ζ U (by simp[a])<|aB U U hs c<|ζ U (by simp[a])<|σ U<|ζ U (by simp[a])<|ξ U ls<|ζ U (by simp[a])<|ψ U U<|BO f b1.2<|ζ U (by simp[a])<|bZ U<|aL U (by simp[a]) U<|γ U<|μ U (by simp[d])<|μ U (by simp[d])<|μ U (by simp[d])<|μ U (by simp[d])<|μ U (by simp[d])<|μ U (by simp[d])<|μ U (by simp[d])<|aU U (by simp[d]) U<|γ U<|μ U U<|μ U U<|μ U U<|μ U U<|μ U U<|μ U U<|μ U U<|aU U U U<|δ ?_;exact ah U U<|χ (no (by simp[m6,d])) trivial
  | true=>
  by_cases o:12<x.kids.length
  ·refine ε<|γ U<|γ U<|aB U U hs c<|σ U<|ξ U e<|bN U<|bC U U<|γ U<|ζ U (by simp<;>omega)<|γ U<|ζ U (by simp<;>omega)<|γ U<|ζ U (by simp<;>omega)<|aB U U hs c<|ζ U (by simp<;>omega)<|σ U<|ζ U (by simp<;>omega)<|ξ U ls<|ζ U (by simp<;>omega)<|bN U<|ζ U (by simp<;>omega)<|bC U U<|aL U (by simp<;>omega) U<|γ U<|ζ U (by simp<;>omega)<|γ U<|ζ U (by simp<;>omega)<|γ U<|ζ U (by simp<;>omega)<|aB U U hs c<|ζ U (by simp<;>omega)<|σ U<|ζ U (by simp<;>omega)<|ξ U e<|ζ U (by simp<;>omega)<|ψ U U<|BO f b1.1<|ζ U (by simp<;>omega)<|bZ U<|aL U (by simp<;>omega) U<|γ U<|ζ U (by simp[a])<|γ U<|ζ U (by simp[a])<|γ U<|ζ U (by simp[a])<|aB U U hs c<|ζ U (by simp[a])<|σ U<|ζ U (by simp[a])<|ξ U ls<|ζ U (by simp[a])<|ψ U U<|BO f b1.2<|ζ U (by simp[a])<|bZ U<|aL U (by simp[a]) U<|γ U<|ζ U (by simp[d])<|γ U<|ζ U (by simp[d])<|γ U<|ζ U (by simp[d])<|aB U U hs c<|ζ U (by simp[d])<|σ U<|ζ U (by simp[d])<|ξ U lk<|ζ U (by simp[d])<|al U ik<|ζ U (by simp[d])<|bC U U<|aL U (by simp[d]) U<|γ U<|μ U (by simp<;>omega)<|μ U (by simp<;>omega)<|μ U (by simp<;>omega)<|μ U (by simp<;>omega)<|μ U (by simp<;>omega)<|μ U (by simp<;>omega)<|μ U (by simp<;>omega)<|aU U (by simp<;>omega) U<|δ ?_;exact ah U U<|χ (no (by simp[m6,o])) trivial
  refine ε<|γ U<|γ U<|aB U U hs c<|σ U<|ξ U e<|bN U<|bC U U<|γ U<|ζ U (by simp<;>omega)<|γ U<|ζ U (by simp<;>omega)<|γ U<|ζ U (by simp<;>omega)<|aB U U hs c<|ζ U (by simp<;>omega)<|σ U<|ζ U (by simp<;>omega)<|ξ U ls<|ζ U (by simp<;>omega)<|bN U<|ζ U (by simp<;>omega)<|bC U U<|aL U (by simp<;>omega) U<|γ U<|ζ U (by simp<;>omega)<|γ U<|ζ U (by simp<;>omega)<|γ U<|ζ U (by simp<;>omega)<|aB U U hs c<|ζ U (by simp<;>omega)<|σ U<|ζ U (by simp<;>omega)<|ξ U e<|ζ U (by simp<;>omega)<|ψ U U<|BO f b1.1<|ζ U (by simp<;>omega)<|bZ U<|aL U (by simp<;>omega) U<|γ U<|ζ U (by simp[a])<|γ U<|ζ U (by simp[a])<|γ U<|ζ U (by simp[a])<|aB U U hs c<|ζ U (by simp[a])<|σ U<|ζ U (by simp[a])<|ξ U ls<|ζ U (by simp[a])<|ψ U U<|BO f b1.2<|ζ U (by simp[a])<|bZ U<|aL U (by simp[a]) U<|γ U<|ζ U (by simp[d])<|γ U<|ζ U (by simp[d])<|γ U<|ζ U (by simp[d])<|aB U U hs c<|ζ U (by simp[d])<|σ U<|ζ U (by simp[d])<|ξ U lk<|ζ U (by simp[d])<|al U ik<|ζ U (by simp[d])<|bC U U<|aL U (by simp[d]) U<|γ U<|ζ U (by simp<;>omega)<|γ U<|ζ U (by simp<;>omega)<|γ U<|ζ U (by simp<;>omega)<|aB U U hs c<|ζ U (by simp<;>omega)<|σ U<|ζ U (by simp<;>omega)<|ξ U lv<|ζ U (by simp<;>omega)<|ψ U U<|w35 f l b3 b4<|ζ U (by simp<;>omega)<|bZ U<|aL U (by simp<;>omega) U<|δ ?_;cases k:BP x.vars with
  | false=>exact ah U U<|χ (no (by simp[m6,k])) trivial
  | true=>
   refine ae U U<|Ω ?_;have p:m6 x=true:=by simp[m6,a,d,k];omega
   rw[p,xM]at g;refine aA<|γ U<|aX U U ⟨by omega,by omega⟩<|γ U<|δ ?_;exact χ (ih (i+1) (by omega) (by omega) g) (ρ.rf U)
def w6(c:Cd C){t:V}{ts:List Nd}(ht:aZ h n t ts)(hb:zF ts)(a:Q (.b (kj ts)) h n):ν C (.f 6 [] []) [t] h n Q:=by
 refine ν.go c.f6 U ?_;obtain⟨cs,hs⟩:=ht.sl;have hlen:=hb.len;refine ε<|γ U<|δ ?_;have go:kj ts=ts.all m6->WC C H4 [(k0,t)] h n (fq [.t k2] Q):=by intro he;rw[he]at a;refine θ<|ε<|γ U<|δ ?_;exact aj<|χ (ahL c ht hb _ 0 rfl (by omega) a) (ρ.rf U)
 by_cases h1:120<ts.length
 ·refine θ<|ε<|γ U<|al U hs<|bC U U<|γ U<|ζ U (by simp<;>omega)<|γ U<|ζ U (by simp<;>omega)<|al U hs<|ζ U (by simp<;>omega)<|dR U U<|aU U (by simp<;>omega) U<|δ ?_;by_cases h2:ts.length=2001
  ·exact ae U (by simp[h2])<|Ω<|χ (go (by simp[kj,h2])) (ρ.rf U)
  ·refine ah U (by simp<;>omega) ?_;have e:kj ts=false:=by simp[kj,h1,h2]
   rw[e]at a;refine ε<|γ U<|δ (Γ ⟨_,rfl,a⟩)
 ·refine θ<|ε<|γ U<|al U hs<|bC U U<|γ U<|μ U (by simp<;>omega)<|μ U (by simp<;>omega)<|μ U (by simp<;>omega)<|aL U (by simp<;>omega) U<|δ ?_;exact ae U U<|Ω<|χ (go (by simp[kj,h1])) (ρ.rf U)
end
section
variable {C:Nat->Option aI}{h:Hf}{n:K}{Q:V->Hf->K->Prop}
def w19(a:Cd C){v:V}{l:List (S×S)}(hv:du h n v l)(hl:l.length<1000000)(b:∀v' h' n',ea h' 64 2 v' l.length (fW l)->Ext h n h' n'->(v'=.ns\/n.num<=v'.blk.num/\v'.blk.num<n'.num)->Q v' h' n'):ν C (.f 19 [] []) [v] h n Q:=by refine ν.go a.f19 U ?_;refine ε<|γ U<|δ ?_;refine ε<|γ U<|yr U U hv (by omega) (by omega) (by omega) <| λc d e o3 x3 g=>γ U<|δ (Γ ⟨_,rfl,b c d e o3 x3 g⟩)
def w38(a:Cd C){v:V}{l:List Int}(hv:da h n .i64 v l)(hl:l.length<1000000)(b:∀v' h' n',ea h' 3 1 v' l.length (cO .i64 l)->Ext h n h' n'->(v'=.ns\/n.num<=v'.blk.num/\v'.blk.num<n'.num)->Q v' h' n'):ν C (.f 38 [] []) [v] h n Q:=by refine ν.go a.f38 U ?_;refine ε<|γ U<|δ ?_;refine ε<|γ U<|yr U U hv (by omega) (by omega) (by omega) <| λc d e o3 x3 g=>γ U<|δ (Γ ⟨_,rfl,b c d e o3 x3 g⟩)
section
variable {h0:Hf}{n0:K}{t:V}{ts:List Nd}
def ahM(hC:Cd C)(ht:aZ h0 n0 t ts)(hb:Bd ts){Q1:Ex->Env->Hf->K->Prop}
 (hQ:∀vo m h n E',Ext h0 n0 h n->TO h n0 n vo ts m->ρ [(k3,vo)] E'->Q1 .normal E' h n):
 ∀(r i:Nat) (vo:V) (m:List (V×V)) (h:Hf) (n:K),ts.length - i=r->i<=ts.length->TO h n0 n vo (ts.take i) m->Gr h0 n0 h n 87 5 vo i (ca (ts.take i) m)->WC C abc [(k0,t),(k3,vo),(k4,iN i)] h n (blk 0 Q1):=by
 have hlen:=hb.len;intro r
 induction r with
 | zero=>
  intro i vo m h n G hi s u;have:i=ts.length:=by omega
  subst this;obtain⟨cs,hs⟩:=(ht.ext u.ext).sl;rw[eN]at s;refine ax ?_;refine θ<|ε<|γ U<|γ U<|al U hs<|ay U U<|δ ?_;exact ae U (by simp)<|aJ (hQ vo m h n _ u.ext s (ρ.rf U))
 | succ r ih=>
  intro i vo m h n G hi s u;have D:i<ts.length:=by omega
  have rQ:=ht.ext u.ext;obtain⟨cs,hs⟩:=rQ.sl;obtain⟨vv,kv,E⟩:=rQ.node D;have bf:=jm ts[i] (κ.one E.vars) (κ.one E.kids);have bP:=hb.gw i D;have mP:=hb.vl i D;refine ax ?_;refine θ<|ε<|γ U<|γ U<|al U hs<|ay U U<|δ ?_;refine ah U (by simp<;>omega)<|Ω ?_;refine θ<|aj<|ε<|γ U<|γ U<|aB U U hs D<|ξ U E.all<|bA <| λh1 n1 cA a1 e1=>aH U U a1 (cj rfl rfl bf) <| λh2 L b2=>δ ?_;have x2:Ext h n h2 n1:=e1.ab b2 (φ _);have M:=E.vars.ext x2;have N:=E.kids.ext x2;have ld3:bj h2 false 1 (.p n (0+3))=some vv:=cE L rfl _;have O:∀{h' n'},Ext h2 n1 h' n'->bj h' false 1 (.p n (0+4))=some kv:=λe=>cE ((e.2 _ (by omega)).trans L) U _;have ahN:=κ.below M (φ _);have ahO:∀{n':K},n1.num<=n'.num->bk n' kv=true:=λe=>κ.below N e;refine cX<|bG U<|aC U ld3 ahN (κ.cH M)<|aY U U<|w19 hC M (by omega) <| λd P R o3 x3 v=>bG U<|aC U (O x3) (ahO x3.1) (κ.cH N)<|aY U U<|w38 hC (N.ext x3) (by omega) <| λo S w o5 B y=>bG U<|eT U U ((B.2 _ (by have:=x3.1;omega)).trans ((x3.2 _ (by omega)).trans L)) (wS o3.cells o3.one) <| λh4 a4 b4=>bG U<|eT U U a4 (wT o5.cells o5.one) <| λz a6 b6=>bU (⟨⟨ω (by simp[Nat.testBit]),ω (by simp[Nat.testBit]),ω (by simp[Nat.testBit]),bH (O (Ext.refl _ _)) (O x3),trivial⟩,⟨ω (by simp[Nat.testBit]),ω (by simp[Nat.testBit]),ω (by simp[Nat.testBit]),ω (by simp[Nat.testBit]),trivial⟩,trivial⟩) ?_;have x3:Ext h2 n1 P R:=x3;have B:Ext P R S w:=B;have T:bm n S h4:=b4;have W:bm n h4 z:=b6;have gJ:=x3.1;have oi:=B.1;have x6:Ext h n z w:=(((x2.trans x3).trans B).ab T (φ _)).ab W (φ _);have CO:z n=some (.c (bW ts[i] d o) 87 0):=a6;have o3:ea P 64 2 d ts[i].vars.length (fW ts[i].vars):=o3;have o5:ea S 3 1 o ts[i].kids.length (cO .i64 ts[i].kids):=o5;have JR:ea z 64 2 d ts[i].vars.length (fW ts[i].vars):=(((o3.ext (v.imp id λh=>B.2 _ (by omega))).ext (v.imp id λh=>T _ (by omega))).ext (v.imp id λh=>W _ (by omega)));have X:ea z 3 1 o ts[i].kids.length (cO .i64 ts[i].kids):=(o5.ext (y.imp id λh=>T _ (by omega))).ext (y.imp id λh=>W _ (by omega));have BI:=jm ts[i] o3.one o5.one;have Y:=u.on x6;refine aA<|γ U<|ξ U (bc CO (iL rfl))<|eg (yH rfl BI rfl) <| λh7 n7 oW a7 A=>jF U ((Y.on A).own) U (κ.whole (len:=1) (by omega) a7 rfl) (by omega) (by omega) (by omega) (by omega) BI ((Y.on A).lt) <| λH F n8 o8 I sY J=>γ U<|δ ?_;have Z:=(Y.on A).app o8 I sY J;have Wj:Ext h n h7 n7:=x6.trans A;have Ay:m.length=i:=by rw[s.rows.len];simp;omega
  have CX:ts.take (i+1)=ts.take i++[ts[i]]:=fL D;have JT:ca (ts.take i) m++bW ts[i] d o=ca (ts.take (i+1)) (m++[(d,o)]):=by rw[CX,uw (by rw[Ay];simp;omega)];rfl
  rw[JT]at Z;have oW:=A.1;have ahp:=u.ext.1;have ahq:n.num<n1.num:=by omega
  have Hq:∀b:K,b.num<n.num->(vo=.ns\/b.num≠vo.blk.num)->F b=h b:=λb hb hv=>by rw[J b (by omega) hv,Wj.2 b hb]
  have l3:d=.ns\/d.blk.num<R.num:=v.imp id And.right;have l5:o=.ns\/o.blk.num<w.num:=y.imp id And.right;have JU:d=.ns\/(vo=.ns\/d.blk.num≠vo.blk.num):=v.imp id λh=>u.lt.imp id λg=>by omega
  have JV:o=.ns\/(vo=.ns\/o.blk.num≠vo.blk.num):=y.imp id λh=>u.lt.imp id λg=>by omega
  have f3:d=.ns\/F d.blk=z d.blk:=by
   rcases l3 with l | l
   ·exact Or.inl l
   ·rcases JU with g | g
    ·exact Or.inl g
    ·exact Or.inr (by rw[J _ (by omega) g,A.2 _ (by omega)];rfl)
  have f5:o=.ns\/F o.blk=z o.blk:=by
   rcases l5 with l | l
   ·exact Or.inl l
   ·rcases JV with g | g
    ·exact Or.inl g
    ·exact Or.inr (by rw[J _ (by omega) g,A.2 _ (by omega)];rfl)
  have JW:o=.ns\/n0.num<=o.blk.num:=y.imp id λh=>by omega
  have JX:d=.ns\/n0.num<=d.blk.num:=v.imp id λh=>by omega
  have k8:H=.ns\/w.num<=H.blk.num:=Or.inr (by rw[I];omega);have JY:d=.ns\/d.blk.num<w.num:=l3.imp id λh=>by omega
  have g5:o=.ns\/n.num<=o.blk.num:=y.imp id λh=>by omega
  have g3:d=.ns\/n.num<=d.blk.num:=v.imp id λh=>by omega
  have ro:RO F n0 n8 H ts[i] (d,o):=by
   refine⟨κ.eD (JR.sl (n:=w) JY) f3 (by omega),κ.eD (X.sl (n:=w) l5) f5 (by omega),?_,JW,JX,cC.of l3 (y.imp id And.left),cC.of JY k8,cC.of l5 k8⟩;rcases X.su with g | g
   ·exact Or.inl (nD.1 (X.nil g))
   ·rcases f5 with f | f
    ·have:=g.1;rw[f]at this;cases this
    ·exact Or.inr ⟨g.1,by rw[f];exact g.2⟩
  refine aA<|γ U<|aX U U ⟨by omega,by omega⟩<|γ U<|δ ?_;refine χ (ih (i+1) H (m++[(d,o)]) F n8 (by omega) (by omega) ⟨?_,?_,?_,Or.inr (by rw[I];omega)⟩ Z) (ρ.rf U)
  ·have:=Z.sl;have el:(ts.take (i+1)).length=i+1:=by simp;omega
   rw[el];exact this
  ·rw[CX];exact cz.app (cz.mono (λx p a=>a.step Hq (by omega) (by rw[I];omega)) s.rows) ⟨ro,trivial⟩
  ·rw[List.pairwise_append];refine⟨s.pw,List.pairwise_singleton _ _,?_⟩;intro p hp q hq;rw[iZ]at hq;subst hq;obtain⟨j,hj,rfl⟩:=iX hp;have G:=s.rows.get j (by rw[←s.rows.len];exact hj) hj;have b1:=κ.cP G.b;have b2:=κ.cP G.k;exact⟨cC.of b2 g5,cC.of b1 g5,cC.of b2 g3⟩
end
def w9g(a:Cd C){t:V}{ts:List Nd}(ht:aZ h n t ts)(hb:Bd ts)(b:∀vo h' n',Ext h n h' n'->TG h' n n' vo ts->Q vo h' n'):ν C (.f 9 [] []) [t] h n Q:=by refine ν.go a.f9 U ?_;refine ε<|γ U<|δ ?_;refine ε<|γ U<|δ ?_;refine θ<|ε<|γ U<|δ ?_;refine aj<|χ (ahM a ht hb ?_ _ 0 .ns [] h n rfl (by omega) ⟨by simp;exact κ.ns h n 5,trivial,List.Pairwise.nil,Or.inl U⟩ (by simpa[ca]using Gr.ns (Ext.refl h n))) (ρ.rf U);intro vo m h1 n1 E1 c d s1;refine bS s1 ?_;refine ε<|γ U<|γ U<|δ (Γ ⟨_,rfl,b vo h1 n1 c (d.tg (φ _))⟩)
def w9(a:Cd C){t:V}{ts:List Nd}(ht:aZ h n t ts)(hb:Bd ts)(b:∀vo h' n',Ext h n h' n'->aZ h' n' vo ts->Q vo h' n'):ν C (.f 9 [] []) [t] h n Q:=
 w9g a ht hb λvo h' n' e g=>b vo h' n' e g.t
end
section
variable {C:Nat->Option aI}{h:Hf}{n:K}{Q:V->Hf->K->Prop}
def ahQ(p q:S×S):j5 .eql (.agg [(0,.str),(1,.str)]) (.a [st p.1,st p.2]) (.a [st q.1,st q.2])=some (.b (decide (p=q))):=by
 have c:=DQ p.1 q.1;have d:=DQ p.2 q.2;have e:decide (p=q)=(decide (p.1=q.1)&&decide (p.2=q.2)):=by
  by_cases h:p=q
  ·subst h;simp
  ·have:¬ (p.1=q.1/\p.2=q.2):=λh'=>h (Prod.ext h'.1 h'.2);by_cases h1:p.1=q.1<;>by_cases h2:p.2=q.2<;>simp_all
 rw[e,←c,←d];simp only[j5,lu,yY,nth,cH];cases (Nat.beq p.1.length q.1.length&&Nat.beq (aT p.1) (aT q.1))<;>cases (Nat.beq p.2.length q.2.length&&Nat.beq (aT p.2) (aT q.2))<;>rfl
def ahR(p q:S×S):j5 .neq (.agg [(0,.str),(1,.str)]) (.a [st p.1,st p.2]) (.a [st q.1,st q.2])=some (.b (!decide (p=q))):=by
 have:=ahQ p q;simp only[j5]at this ⊢;split at this
 ·rename_i b h;cases this;rfl
 ·cases this
section
variable {h0:Hf}{n0:K}{ta tb:V}{a b:List Nd}
end
end
section
variable {C:Nat->Option aI}{h:Hf}{n:K}{Q:V->Hf->K->Prop}
def Ag(n:K)(h H:Hf):Prop:=∀k:K,k.num<n.num->H k=h k
def Ag.refl(n:K)(h:Hf):Ag n h h:=λ_ _=>rfl
def Ag.hp{n:K}{h H:Hf}(a:Ag n h H)(b:K)(o:Option O)(hb:n.num<=b.num):Ag n h (X.hp H b o):=λk c=>by rw[mL _ _ (p7 (by omega))];exact a k c
def Ag.ext{n n1 c:K}{h H H':Hf}(a:Ag n h H)(e:Ext H n1 H' c)(f:n.num<=n1.num):Ag n h H':=λk d=>by rw[e.2 k (by omega)];exact a k d
def Ag.ab{n b:K}{h H H':Hf}(a:Ag n h H)(e:bm b H H')(d:n.num<=b.num):Ag n h H':=λk c=>by rw[e k (by omega)];exact a k c
def Ag.x{n n':K}{h H:Hf}(a:Ag n h H)(c:n.num<=n'.num):Ext h n H n':=⟨c,a⟩
def Ext.ag{n n':K}{h H:Hf}(a:Ext h n H n'):Ag n h H:=a.2
def EV{h:Hf}{b k:K}{o:Option O}(c:k.num≠b.num):hp h b o k=h k:=mL _ _ (p7 c)
section
variable {x y:Nd}{vx kx vy ky:V}{b6 b7:K}{h0:Hf}{n0:K}
end
section
variable {h0:Hf}{n0:K}{ta tb:V}{a b:List Nd}
end
end
section
variable {C:Nat->Option aI}{h:Hf}{n:K}{Q:V->Hf->K->Prop}
end
section
variable {C:Nat->Option aI}{h:Hf}{n:K}{Q:V->Hf->K->Prop}
section
variable {x y:Nd}{vx kx vy ky:V}{iy bx by':K}{hs:Hf}{ns:K}
end
end
section
variable {C:Nat->Option aI}{h:Hf}{n:K}{Q:V->Hf->K->Prop}
end
section
variable {C:Nat->Option aI}{h:Hf}{n:K}{Q:V->Hf->K->Prop}
def ahS(a:Cd C){s:S}{c:Nat}(b:c<256)(d:Q (.i .i64 (bI c s)) h n):ν C (.f 267 [] []) [st s,.i .u8 (c:Nat)] h n Q:=by
 refine ν.pm a.f267 λH e=>⟨.i .i64 (bI c s),H,n,?_,by rw[e];exact d⟩;show Ae [.s s.length (aT s),.i .u8 (.ofNat c)] H n=_;have:Nat.blt c 256=true:=by rw[eM];simpa using b
 simp only[Ae,this,cond_true,adt,bI];cases uZ c s 0<;>rfl
def Sg(a:Cd C){s:S}{c:Nat}(b:c<256)(d:Q (.i .i64 (bI c s)) h n):ν C (.f 209 [] []) [st s,.i .u8 (c:Nat)] h n Q:=by refine ν.go a.f209 U ?_;refine ε<|γ U<|δ ?_;refine ε<|γ U<|γ U<|ψ U U<|ahS a b<|γ U<|δ (Γ ⟨_,rfl,d⟩)
def Sj(a:Cd C){s:S}{c:Nat}(b:c<256)(d:Q (.i .i64 (bI c s)) h n):ν C (.f 145 [] []) [st s,.i .u8 (c:Nat)] h n Q:=by refine ν.go a.f145 U ?_;refine ε<|γ U<|δ ?_;refine ε<|γ U<|γ U<|ψ U U<|Sg a b<|γ U<|δ (Γ ⟨_,rfl,d⟩)
def ahT(c:Cd C){r:Nat}(d:r<=1114111)(e:r<55296\/57344<=r)(a:Q (.b true) h n):ν C (.f 305 [] []) [.i .i32 (r:Nat)] h n Q:=by
 refine ν.go c.f305 U ?_;refine ε<|γ U<|δ ?_;refine θ<|aj ?_;by_cases h1:r<55296
 ·refine ε<|γ U<|mS U U<|γ U<|ζ U (by simp<;>omega)<|γ U<|ζ U (by simp<;>omega)<|ay U U<|aU U (by simp<;>omega) U<|γ U<|δ ?_;refine ah U (by simp<;>omega) ?_;refine ε<|γ U<|δ (Γ ⟨_,rfl,a⟩)
 ·refine ε<|γ U<|mS U U<|γ U<|ζ U (by simp<;>omega)<|γ U<|ζ U (by simp<;>omega)<|ay U U<|aU U (by simp<;>omega) U<|γ U<|δ ?_;refine ae U (by simp<;>omega) ?_;refine ε<|γ U<|ay U U<|γ U<|ζ U (by simp<;>omega)<|γ U<|ζ U (by simp<;>omega)<|mS U U<|aU U (by simp<;>omega) U<|γ U<|δ ?_;refine ah U (by simp<;>omega) ?_;refine ε<|γ U<|δ (Γ ⟨_,rfl,a⟩)
def ahU{cs:S}(a:∀c∈cs,c.toNat<128){b:K}{h0:Hf}{n0:K}{Q1:Ex->Env->Hf->K->Prop}(f:n0.num<=b.num)(g:∀E h n,Ext h0 n0 h n->Q1 .normal E h n):∀(m pos:Nat) (h:Hf) (n:K),cs.length - pos=m->pos<=cs.length->h b=some (.it cs.length (aT cs) pos)->Ext h0 n0 h n->∀v,WC C abF [(aaC,.p b 0),(k0,v)] h n (blk 9 Q1):=by
 intro m
 induction m with
 | zero=>
  intro pos h n hm hp hb e v;refine ax ?_;refine ε<|yt U hb (by omega)<|bF U U<|δ ?_;refine θ ?_;exact ae U U<|aJ (g _ _ _ e)
 | succ m ih=>
  intro pos h n hm hp hb e v;have d:pos<cs.length:=by omega
  refine ax ?_;refine ε<|Ec U hb (by omega) <| λr w h1 R i b1=>bF U U<|δ ?_;refine θ<|ah U U<|Ω<|aj ?_;obtain⟨j,k⟩:=R.lo (a _ (bK d));have l:=a _ (bK d);refine ε<|bF U U<|bF U U<|γ U<|γ U<|δ ?_;refine ε<|γ U<|aS U U<|δ ?_;refine ae U (by simp<;>omega)<|Ω ?_;exact χ (ih (pos+w) h1 n (by omega) (by omega) i (e.ab b1 f) v) (ρ.rf U)
def ahV(d:Cd C){cs:S}{r:Nat}(g:∀c∈cs,c.toNat<128)(hlen:4<=cs.length)(kA:cs.length<1000000)(p:r<=1114111)(q:r<55296\/57344<=r)
 (j:∀i:Int,(0<=i↔∃x∈cs,x.toNat=r)->∀h' n',Ext h n h' n'->Q (.i .i64 i) h' n'):ν C (.f 261 [] []) [st cs,.i .i32 (r:Nat)] h n Q:=by
 have s:128<=r->¬ ∃x∈cs,x.toNat=r:=λh ⟨x,k,e⟩=>by have:=g x k;omega
 refine ν.go d.f261 U ?_;refine ε<|γ U<|δ ?_;refine aj ?_;by_cases h1:r<128
 ·refine ε<|γ U<|mS U U<|γ U<|ζ U (by simp<;>omega)<|γ U<|ζ U (by simp<;>omega)<|ay U U<|aU U (by simp<;>omega) U<|γ U<|δ ?_;refine ah U (by simp<;>omega) ?_;refine ε<|γ U<|γ U<|kS U ⟨by omega,by omega⟩<|ψ U U<|Sj d (c:=r) (by omega)<|γ U<|δ (Γ ⟨_,rfl,j _ Ip _ _ (Ext.refl _ _)⟩)
 ·refine ε<|γ U<|mS U U<|γ U<|ζ U (by simp<;>omega)<|γ U<|ζ U (by simp<;>omega)<|ay U U<|aU U (by simp<;>omega) U<|γ U<|δ ?_;refine ae U (by simp<;>omega) ?_;refine ε<|γ U<|aS U U<|γ U<|δ ?_;have neg:(0:Int) <= -1↔∃x∈cs,x.toNat=r:=⟨λh=>by omega,λh=>absurd h (s (by omega))⟩;by_cases h2:r=65533
  ·refine ah U (by simp<;>omega) ?_;refine θ<|ε<|γ U<|Eb U <| λh1 n1 w t u=>δ ?_;refine aj<|χ (ahU g (h0:=h) (n0:=n) (φ _) (λE h' n' e=>?_) _ 0 h1 n1 rfl (by omega) t u _) (ρ.rf U);refine ε<|γ U<|δ (Γ ⟨_,rfl,j _ neg _ _ e⟩)
  ·refine ae U (by simp<;>omega) ?_;refine ε<|γ U<|ψ U U<|ahT d p q<|bZ U<|γ U<|δ ?_;refine ae U U<|DP ?_;refine ε<|γ U<|ads U (by simp only[pQ,eM,iK,oq,aK,aW];omega) <| λbs y z v=>γ U<|δ ?_;have m:=v (by omega);refine ε<|γ U<|bN U<|jR U U ((show((bs.length:Nat):Int) - 1=((bs.length - 1:Nat):Int) by omega)) ⟨by omega,by omega⟩<|γ U<|δ ?_;refine ε<|γ U<|γ U<|δ ?_;refine ε<|γ U<|δ ?_;refine θ<|aj<|ax ?_;have o:bs.length - 1<cs.length:=by omega
   have A:cs[bs.length - 1].toNat≠bs[bs.length - 1].toNat:=by have a:=g _ (bK o);have b:=m _ (bK (l:=bs) (n:=bs.length - 1) (by omega));omega
   refine θ<|ε<|γ U<|γ U<|bN U<|ay U U<|δ ?_;refine ah U (by simp<;>omega)<|Ω<|aj<|DP ?_;refine θ<|cX<|ak U<|ak U<|HT U U o<|ak U<|ak U<|HT U U (by omega)<|A3 U U<|bU (by simp[AG,jD,mn,Nat.testBit]) ?_;refine ah U (by simp<;>omega) ?_;refine cX<|ak U<|ak U<|A9 U U ((show((bs.length - 1:Nat):Int)+1=((bs.length:Nat):Int) by omega)) ⟨by omega,by omega⟩<|A5 U U U (by omega) (by omega)<|ak U<|ak U<|HT U U (by omega)<|aY U U<|Sj d (by have:=(bs[bs.length - 1]).toNat_lt;omega)<|ak U<|bU (by simp[AG,jD,mn,Nat.testBit]) ?_;refine θ<|ε<|γ U<|ay U U<|δ ?_;have hm:bI (bs[bs.length - 1].toNat) ((cs.drop bs.length).take (cs.length - bs.length)) = -1:=adw λ⟨x,k,e⟩=>by have a:=g x (xK (qX k));have b:=m _ (bK (l:=bs) (n:=bs.length - 1) (by omega));omega
   refine ah U (by simp only[hm];rfl) ?_;refine ε<|γ U<|δ (Γ ⟨_,rfl,j _ neg _ _ (Ext.refl _ _)⟩)
end
section
variable {C:Nat->Option aI}{h:Hf}{n:K}{Q:V->Hf->K->Prop}
def jq(F:Nat->Bool):List V:=(List.range 256).map λj=>V.b (F j)
def BQ(F:Nat->Bool):(jq F).length=256:=by simp[jq]
def ahX{α:Type}(f:α->Bool):∀l:List α,aD (l.map λj=>V.b (f j))=true:=by intro l;induction l<;>simp_all [aD,V.one]
def Sk(F:Nat->Bool):aD (jq F)=true:=ahX F _
def ahY{α:Type}:∀{l:List α} {i:Nat} (h:i<l.length),nth l i=some l[i]:=by
 intro l
 induction l with
 | nil=>intro i h;simp at h
 | cons a l ih=>
  intro i h;cases i with
  | zero=>rfl
  | succ i=>simpa[nth]using ih (i:=i) (by simpa using h)
def ahZ(F:Nat->Bool){j:Nat}(h:j<256):nth (jq F) j=some (.b (F j)):=by rw[ahY (by rw[BQ];exact h)];simp[jq]
def ah0(F:Nat->Bool)(j:Nat)(b:Bool):(jq F).set j (.b b)=jq λi=>if i=j then b else F i:=by
 apply vO
 ·simp[jq]
 ·intro i h1 h2;simp only[jq,List.getElem_set,List.getElem_map,List.getElem_range];by_cases h:i=j
  ·subst h;simp
  ·rw[Θ (Ne.symm h),Θ h]
def Sl(hC:Cd C){m:Nat}(hQ:Q (.b (decide (8<m))) h n):ν C (.f 262 [] []) [iN m] h n Q:=by
 refine ν.go hC.f262 U ?_;refine ε<|γ U<|δ ?_;refine ε<|γ U<|bC U U<|γ U<|δ (Γ ⟨_,rfl,?_⟩);have:decide ((8:Int)<(m:Nat))=decide (8<m):=by by_cases h:8<m<;>simp[h]<;>omega
 rw[this];exact hQ
def lh(cs:S)(j:Nat):Bool:=decide (∃x∈cs,x.toNat=j)
def ah1{cs:S}{i:Nat}(hi:i<cs.length)(j:Nat):lh (cs.take (i+1)) j=if j=cs[i].toNat then true else lh (cs.take i) j:=by
 unfold lh;rw[fL hi];by_cases h:j=cs[i].toNat
 ·rw[ao h];simp only[aW];exact⟨cs[i],zU _ (iZ.2 rfl),h.symm⟩
 ·rw[Θ h];congr 1;apply propext;constructor
  ·rintro⟨x,hx,e⟩;rcases gQ.1 hx with hx | hx
   ·exact⟨x,hx,e⟩
   ·simp only[iZ]at hx;subst hx;exact absurd e.symm h
  ·rintro⟨x,hx,e⟩;exact⟨x,List.mem_append_left _ hx,e⟩
def ah2{cs:S}(ja:∀c∈cs,c.toNat<128)(hl:cs.length<1000000){b:K}{h0:Hf}{n0:K}{Q1:Ex->Env->Hf->K->Prop}(eb:n0.num<=b.num)
 (hQ:∀v E h n,Ext h0 n0 h n->h b=some (.c (jq (lh cs)) 315 0)->Q1 .normal ((k9,v)::(k8,iN cs.length)::(k7,st cs)::(k6,iN cs.length)::(k0,st cs)::(k2,.p b 0)::E) h n):
 ∀(m i:Nat) (h:Hf) (n:K),cs.length - i=m->i<=cs.length->h b=some (.c (jq (lh (cs.take i))) 315 0)->Ext h0 n0 h n->WC C abG [(k0,st cs),(k2,.p b 0),(k4,iN i)] h n (blk 0 Q1):=by
 intro m
 induction m with
 | zero=>
  intro i h n hm hi hb e;have:i=cs.length:=by omega
  subst this;rw[eN]at hb;refine ax ?_;refine θ<|ε<|γ U<|γ U<|bN U<|ay U U<|δ ?_;exact ae U (by simp)<|aJ (hQ _ _ _ _ e hb)
 | succ m ih=>
  intro i h n hm hi hb e;have τ:i<cs.length:=by omega
  have hc:=ja _ (bK τ);refine ax ?_;refine θ<|ε<|γ U<|γ U<|bN U<|ay U U<|δ ?_;refine ah U (by simp<;>omega)<|Ω ?_;refine θ<|aj<|ε<|γ U<|γ U<|kc U U τ<|γ U<|δ ?_;refine θ<|ε<|γ U<|dj U U<|δ ?_;refine ae U (by simp<;>omega)<|Ω ?_;have hs:ju (jq (lh (cs.take i))) 0 (0+cs[i].toNat*1) 1 (.b true)=some (jq (lh (cs.take (i+1)))):=by rw[show jq (lh (cs.take (i+1)))=(jq (lh (cs.take i))).set cs[i].toNat (.b true) from by rw[ah0];congr 1;funext j;exact ah1 τ j];exact mR rfl rfl (by rw[show 0+cs[i].toNat*1=cs[i].toNat by omega];exact Ea _ (by rw[BQ];omega))
  refine aA<|γ U<|Ed U U (by omega)<|aH U U hb hs <| λh1 a1 b1=>δ ?_;refine aA<|γ U<|aX U U ⟨by omega,by omega⟩<|γ U<|δ ?_;exact χ (ih (i+1) h1 n (by omega) (by omega) a1 (e.ab b1 eb)) (ρ.rf U)
def ah3{E:Env}{h:Hf}{k k':K}{agg:Bool}{sz:Nat}{p v v':V}(h1:lk E k=some p)(h2:bj h agg sz p=some v)(a:lk E k'=some v'):
 j6 [.cell k agg sz,.t k'] E h=some (.u [v,v']):=by
 simp only[j6,ph,rp,h1,h2,a]
set_option maxRecDepth 100000 in
theorem ah4(hC:Cd C){cs:S}(ja:∀c∈cs,c.toNat<128)(hl:cs.length<1000000)(hQ:∀h' n',Ext h n h' n'->Q (.u [.a (jq (lh cs)),.b true]) h' n'):ν C (.f 263 [] []) [st cs] h n Q:=by refine ν.go hC.f263 U ?_;refine ε<|bA <| λh1 n1 cA a1 e1=>γ U<|δ ?_;refine θ<|ε<|γ U<|δ ?_;have zD:h1 n=some (.c (jq (lh (cs.take 0))) 315 0):=a1;refine aj<|χ (ah2 ja hl (h0:=h) (n0:=n) (φ _) (λv E h' n' e a=>?_) _ 0 h1 n1 rfl (by omega) zD e1) (ρ.rf U);have Mo:∀{xq:Hf},xq n=some (.c (jq (lh cs)) 315 0)->bj xq true 256 (.p n 0)=some (.a (jq (lh cs))):=λa=>bc a (iL (BQ _));refine ε<|ξ U (Mo a)<|aH U U (a) (cj (BQ _) U (Sk _)) <| λh2 a2 b2=>γ U<|δ ?_;exact Γ ⟨_,ah3 rfl (Mo a2) U,hQ _ _ (e.ab b2 (φ _))⟩
def ah5(hC:Cd C){b:K}{F:Nat->Bool}(hb:h b=some (.c (jq F) 315 0)){c:UInt8}(hQ:Q (.b (F c.toNat)) h n):ν C (.f 264 [] []) [.p b 0,.i .u8 (c.toNat:Nat)] h n Q:=by have hc:=c.toNat_lt;refine ν.go hC.f264 U ?_;refine ε<|γ U<|δ ?_;refine ε<|γ U<|γ U<|aaN U<|Ed U U (by omega)<|ξ U (cE hb (o:=0+c.toNat*1) (by rw[show 0+c.toNat*1=c.toNat by omega];exact ahZ F hc) _)<|γ U<|δ (Γ ⟨_,rfl,hQ⟩)
def rK(s cs:S):Prop:=∃c∈s,∃x∈cs,x.toNat=c.toNat
section
variable {s cs:S}(ja:∀c∈cs,c.toNat<128)(hl:s.length<1000000){h0:Hf}{n0:K}(hQ:∀i:Int,(0<=i↔rK s cs)->∀h' n',Ext h0 n0 h' n'->Q (.i .i64 i) h' n')
include ja hl hQ in
theorem ah6 (hC:Cd C) {b:K} (eb:n0.num<=b.num) {Q1:Ex->Env->Hf->K->Prop} (Gd:∀i:Int,(0<=i↔rK s cs)->∀E h' n',Ext h0 n0 h' n'->Q1 .ret ((k4,.i .i64 i)::E) h' n') (C0:¬ rK s cs->∀E h' n',Ext h0 n0 h' n'->Q1 .normal E h' n'):
 ∀(m i:Nat) (h:Hf) (n:K),s.length - i=m->i<=s.length->h b=some (.c (jq (lh cs)) 315 0)->Ext h0 n0 h n->(∀j (hj:j<s.length),j<i->lh cs s[j].toNat=false)->WC C abD [(k0,st s),(k6,.p b 0),(k8,iN i)] h n (blk 0 Q1):=by
 intro m
 induction m with
 | zero=>
  intro i h n hm hi hb e gN;refine ax ?_;refine θ<|ε<|γ U<|γ U<|bN U<|ay U U<|δ ?_;refine ae U (by simp<;>omega)<|aJ (C0 (λ⟨c,hc,hx⟩=>?_) _ _ _ e);obtain⟨j,hj,rfl⟩:=iX hc;have:=gN j hj (by omega);simp only[lh,cg]at this;exact this hx
 | succ m ih=>
  intro i h n hm hi hb e gN;have τ:i<s.length:=by omega
  refine ax ?_;refine θ<|ε<|γ U<|γ U<|bN U<|ay U U<|δ ?_;refine ah U (by simp<;>omega)<|Ω ?_;refine θ<|aj<|ε<|γ U<|γ U<|kc U U (τ)<|ψ U U<|ah5 hC hb<|δ ?_;refine cm U (λhx=>?_) (λhx=>Ω ?_)
  ·simp only[lh,aW]at hx;refine ε<|γ U<|γ U<|δ (Γ (Gd _ ⟨λ_=>⟨_,bK τ,hx⟩,λ_=>by omega⟩ _ _ _ e))
  ·refine aA<|γ U<|aX U U ⟨by omega,by omega⟩<|γ U<|δ ?_;refine χ (ih (i+1) h n (by omega) (by omega) hb e (λj hj FZ=>?_)) (ρ.rf U);by_cases h:j=i
   ·subst h;exact hx
   ·exact gN j hj (by omega)
include ja hl hQ in
theorem ah7 (hC:Cd C) {b:K} (eb:n0.num<=b.num) (oh:4<=cs.length) (gg:cs.length<1000000) {Q1:Ex->Env->Hf->K->Prop} (Gd:∀i:Int,(0<=i↔rK s cs)->∀E h' n',Ext h0 n0 h' n'->Q1 .ret ((k4,.i .i64 i)::E) h' n') (C0:¬ rK s cs->∀E h' n',Ext h0 n0 h' n'->Q1 .normal E h' n'):
 ∀(m i:Nat) (h:Hf) (n:K),s.length - i<=m->i<=s.length->h b=some (.it s.length (aT s) i)->b.num<n.num->Ext h0 n0 h n->(∀j (hj:j<s.length),j<i->∀x∈cs,x.toNat≠s[j].toNat)->WC C abE [(k1,st cs),(k45,.p b 0)] h n (blk 2 Q1):=by
 intro m
 induction m with
 | zero=>
  intro i h n hm hi hb dP e gN;refine ax ?_;refine ε<|yt U (hb) (by omega)<|bF U U<|δ ?_;refine θ<|ae U U<|aJ (C0 (λ⟨c,hc,x,hx,he⟩=>?_) _ _ _ e);obtain⟨j,hj,rfl⟩:=iX hc;exact gN j hj (by omega) x hx he
 | succ m ih=>
  intro i h n hm hi hb dP e gN;refine ax ?_;by_cases τ:i<s.length
  ·refine ε<|Ec U (hb) (by omega) <| λr w h1 R a1 b1=>bF U U<|δ ?_;refine θ<|ah U U<|Ω<|aj ?_;have hrk:r<=1114111/\(r<55296\/57344<=r):=by
    by_cases hb:s[i].toNat<128
    ·have:=(R.lo hb).1;omega
    ·exact(R.hi (by omega)).2
   have e1:=e.ab b1 eb;refine ε<|bF U U<|bF U U<|γ U<|γ U<|δ ?_;refine ε<|γ U<|γ U<|ψ U U<|ahV hC ja oh gg hrk.1 hrk.2 <| λiv hiv h2 n2 e2=>dj U U<|δ ?_;refine cm U (λhx=>?_) (λhx=>Ω ?_)
   ·simp only[aW]at hx;refine ε<|γ U<|γ U<|δ ?_;refine Γ (Gd _ ⟨λ_=>?_,λ_=>by omega⟩ _ _ _ (e1.trans e2));obtain⟨x,hx,he⟩:=hiv.1 hx;have art:=ja x hx;have aia:s[i].toNat<128:=by
     by_cases hb:s[i].toNat<128
     ·exact hb
     ·have:=(R.hi (by omega)).1;omega
    exact⟨_,bK τ,x,hx,by have:=(R.lo aia).1;omega⟩
   ·simp only[cg]at hx;have aib:b.num<n.num:=dP;refine χ (ih (i+w) h2 n2 (by have:=R.one;omega) R.le (by rw[e2.2 _ aib];exact a1) (by have:=e2.1;omega) (e1.trans e2) (λj hj FZ x Wm he=>?_)) (ρ.rf U);by_cases uX:j<i
    ·exact gN j hj uX x Wm he
    ·by_cases hb:s[i].toNat<128
     ·obtain⟨er,ew⟩:=R.lo hb;have:j=i:=by omega
      subst this;exact hx (hiv.2 ⟨x,Wm,by omega⟩)
     ·have:=R.all (by omega) j hj (by omega) FZ;have:=ja x Wm;omega
  ·refine ε<|yt U (hb) (by omega)<|bF U U<|δ ?_;refine θ<|ae U U<|aJ (C0 (λ⟨c,hc,x,hx,he⟩=>?_) _ _ _ e);obtain⟨j,hj,rfl⟩:=iX hc;exact gN j hj (by omega) x hx he
end
set_option maxRecDepth 100000 in
theorem aic(hC:Cd C){s cs:S}(hs:s≠[])(hl:s.length<1000000)(ja:∀c∈cs,c.toNat<128)(oh:4<=cs.length)(gg:cs.length<1000000)
 (hQ:∀i:Int,(0<=i↔rK s cs)->∀h' n',Ext h n h' n'->Q (.i .i64 i) h' n'):ν C (.f 195 [] []) [st s,st cs] h n Q:=by
 have aG:cs≠[]:=λe=>by rw[e]at oh;simp at oh
 have gN:¬ rK s cs->((0:Int) <= -1↔rK s cs):=λh=>⟨λe=>by omega,λe=>absurd e h⟩;refine ν.go hC.f195 U ?_;refine ε<|γ U<|δ ?_;refine θ<|ε<|γ U<|eC (b:=[]) U U<|δ ?_;refine ae U (by simpa using aG)<|Ω ?_;refine θ<|ε<|γ U<|bN U<|aS U U<|δ ?_;refine ae U (by simp<;>omega)<|Ω ?_;by_cases h8:8<s.length
 ·refine θ<|ε<|γ U<|bN U<|ψ U U<|Sl hC<|δ ?_;refine ah U (by simp<;>omega) ?_;refine ε<|γ U<|ψ U U<|ah4 hC ja gg <| λh1 n1 e1=>γ U<|bF U U<|bF U U<|bA <| λh2 n2 dS a2 e2=>aH U U a2 (cj (BQ _) U (Sk _)) <| λh3 a3 b3=>γ U<|δ ?_;refine ε<|γ U<|δ ?_;refine ah U U ?_;refine θ<|ε<|γ U<|δ ?_;have e3:Ext h n h3 n2:=(e1.trans e2).ab b3 (by have:=e1.1;omega);refine aj<|χ (ah6 ja hl hQ hC (b:=n1) (by have:=e1.1;omega) (λi hi E h' n' e=>⟨_,rfl,hQ i hi h' n' e⟩) (λmK E h' n' e=>?_) _ 0 h3 n2 rfl (by omega) a3 e3 (λj hj h=>by omega)) (ρ.rf U);refine ε<|γ U<|δ (Γ ⟨_,rfl,hQ _ (gN mK) _ _ e⟩)
 ·refine θ<|ε<|γ U<|bN U<|ψ U U<|Sl hC<|δ ?_;refine ae U (by simp<;>omega)<|Ω ?_;refine θ<|ε<|γ U<|Eb U <| λh1 n1 cA a1 e1=>δ ?_;refine aj<|χ (ah7 ja hl hQ hC (b:=n) (φ _) oh gg (λi hi E h' n' e=>⟨_,rfl,hQ i hi h' n' e⟩) (λmK E h' n' e=>?_) _ 0 h1 n1 (φ _) (by omega) a1 (by omega) e1 (λj hj h=>by omega)) (ρ.rf U);refine ε<|γ U<|δ (Γ ⟨_,rfl,hQ _ (gN mK) _ _ e⟩)
def aid(hC:Cd C){s cs:S}(hs:s≠[])(hl:s.length<1000000)(ja:∀c∈cs,c.toNat<128)(oh:4<=cs.length)(gg:cs.length<1000000)
 (hQ:∀b:Bool,(b=true↔rK s cs)->∀h' n',Ext h n h' n'->Q (.b b) h' n'):ν C (.f 118 [] []) [st s,st cs] h n Q:=by
 refine ν.go hC.f118 U ?_;refine ε<|γ U<|δ ?_;refine ε<|γ U<|γ U<|ψ U U<|aic hC hs hl ja oh gg <| λi hi h1 n1 e1=>dj U U<|γ U<|δ (Γ ⟨_,rfl,hQ _ (by simpa using hi) _ _ e1⟩)
def aie(s:S):s.all mZ=true↔¬ rK s [32,10,40,41,123,125]:=by
 rw[mE];constructor
 ·rintro h ⟨c,hc,x,hx,e⟩;have:=h c hc;simp only[mZ,ov,zV,cg]at this;simp only[eO,tX,or_false]at hx;rcases hx with rfl | rfl | rfl | rfl | rfl | rfl<;>simp at e<;>omega
 ·intro h c hc;simp only[mZ,ov,zV,cg];refine⟨⟨⟨⟨⟨?_,?_⟩,?_⟩,?_⟩,?_⟩,?_⟩<;>intro e<;>apply h
  ·exact⟨c,hc,32,by simp,by rw[e];rfl⟩
  ·exact⟨c,hc,10,by simp,by rw[e];rfl⟩
  ·exact⟨c,hc,40,by simp,by rw[e];rfl⟩
  ·exact⟨c,hc,41,by simp,by rw[e];rfl⟩
  ·exact⟨c,hc,123,by simp,by rw[e];rfl⟩
  ·exact⟨c,hc,125,by simp,by rw[e];rfl⟩
def aif:∀c∈([32,10,40,41,123,125]:S),c.toNat<128:=by intro c hc;simp only[eO,tX,or_false]at hc;rcases hc with rfl | rfl | rfl | rfl | rfl | rfl<;>decide
def Wn(hC:Cd C){s:S}(hl:s.length<10000000)(hQ:∀h' n',Ext h n h' n'->Q (.b (lf s)) h' n'):ν C (.f 44 [] []) [st s] h n Q:=by
 refine ν.go hC.f44 U ?_;refine ε<|γ U<|δ ?_;unfold lf at hQ;by_cases h1:s=[]
 ·subst h1;refine ε<|γ U<|rA (b:=[]) U U<|γ U<|μ U (by simp)<|μ U (by simp)<|μ U (by simp)<|aL U (by simp) U<|γ U<|μ U U<|μ U U<|μ U U<|aL U U U<|γ U<|δ (Γ ⟨_,rfl,hQ _ _ (Ext.refl _ _)⟩)
 ·have h0:s.length≠0:=λe=>h1 (List.eq_nil_of_length_eq_zero e);by_cases h2:200<s.length
  ·refine ε<|γ U<|rA (b:=[]) U U<|γ U<|ζ U (by simp[h1])<|γ U<|ζ U (by simp[h1])<|bN U<|ζ U (by simp[h1])<|mS U U<|aU U (by simp[h1]) U<|γ U<|μ U (by simp<;>omega)<|μ U (by simp<;>omega)<|μ U (by simp<;>omega)<|aL U (by simp<;>omega) U<|γ U<|δ (Γ ⟨_,rfl,by simpa[h0,h2]using hQ _ _ (Ext.refl _ _)⟩)
  ·refine ε<|γ U<|rA (b:=[]) U U<|γ U<|ζ U (by simp[h1])<|γ U<|ζ U (by simp[h1])<|bN U<|ζ U (by simp[h1])<|mS U U<|aU U (by simp[h1]) U<|γ U<|ζ U (by simp<;>omega)<|γ U<|ζ U (by simp<;>omega)<|ψ U U<|aid hC (cs:=[32,10,40,41,123,125]) h1 (by omega) aif (by simp) (by simp) <| λb hb h1 n1 e1=>ζ U (by simp<;>omega)<|bZ U<|aU U (by simp<;>omega) U<|γ U<|δ ?_;refine Γ ⟨_,rfl,?_⟩;have:=hQ _ _ e1;have hp:=aie s;cases a:s.all mZ with
   | true=>
    have:b=false:=by cases b with | false=>rfl | true=>exact absurd (hb.1 rfl) (hp.1 a)
    subst this;simp only[h0,h2,a]at *;simpa using ‹Q _ _ _›
   | false=>
    have:b=true:=hb.2 (Classical.byContradiction λh=>by have:=hp.2 h;rw[a]at this;cases this);subst this;simp only[h0,h2,a]at *;simpa using ‹Q _ _ _›
end
end Go.Ev.X
