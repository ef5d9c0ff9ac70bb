/- A part of the proof. -/
import Derived.Test.YtjflaalpkjchoaaGreatDoorW
set_option linter.all false
namespace Go.Ev.X
open Go Go.Ev
section
def Ow.cW{h h':Hf}{n n':K}{e z len:Nat}{v:V}{cs:List V}(a:Ow h n e z v len cs)(x:v=.ns\/h' v.blk=h v.blk)(c:n.num<=n'.num):Ow h' n' e z v len cs:=by
 rcases a with ⟨a,b⟩ | ⟨b,h1,h2,h3,d⟩
 ·exact Or.inl ⟨a.ext x,b.imp id λg=>by omega⟩
 ·exact Or.inr ⟨b,h1,h2,h3,d.iI x c⟩
def Ow.lt{h:Hf}{n:K}{e z len:Nat}{v:V}{cs:List V}(a:Ow h n e z v len cs):v=.ns\/v.blk.num<n.num:=a.sl.dT
def UT(name sort:S):List V:=[.i .i64 3,st sort,st name,.ns,.ns]
def En(h0:Hf)(n0:K)(h:Hf)(nL:K)(vi m:V)(b:Bi):Prop:=bK h0 n0 m b.2\/∃b' name sort,m=.sl b' 0 1 1/\nL.num<=b'.num/\b'.num<vi.blk.num/\h b'=some (.c (UT name sort) 35 0)/\b.2=dJ name sort
structure QS(ei:Nat)(h0:Hf)(n0:K)(h:Hf)(n b5 lb li lv nL:K)(x:Nd)(kv vl vv vi:V)(l inner:List Bi)(vs:List (S×S)):Prop where
 e:Ext h0 n0 h n
 c5:Cl h n b5 (cB x vv kv) 35
 bl:uT h0 n0 h n lb vl l
 LM:vl=.ns\/vl.blk.num<li.num
 vo:Ow h n 37 2 vv vs.length (fU vs)
 vb:vv=.ns\/lv.num<=vv.blk.num/\vv.blk.num<nL.num
 io:∃ms:List V,∃hm:ms.length=inner.length,Ow h n ei 2 vi inner.length (jS inner ms)/\∀j (hj:j<inner.length),En h0 n0 h nL vi (ms[j]'(by omega)) inner[j]
 ib:vi=.ns\/(li.num<=vi.blk.num/\vi.blk.num<lv.num)\/(nL.num<=vi.blk.num/\vi.blk.num<n.num)
 o1:n0.num<=b5.num
 o2:b5.num<lb.num
 o3:lb.num<=li.num
 o4:li.num<=lv.num
 o5:lv.num<=nL.num
 o6:nL.num<=n.num
section
variable {ei:Nat}{h0 h h' h1 h2 h3:Hf}{n0 n n' n1 n2 n3 b5 lb li lv nL:K}{x:Nd}{kv vl vv vi Zt:V}{l inner:List Bi}{vs:List (S×S)}
def QS.ext(a:QS ei h0 n0 h n b5 lb li lv nL x kv vl vv vi l inner vs)(e:Ext h n h' n'):QS ei h0 n0 h' n' b5 lb li lv nL x kv vl vv vi l inner vs:=by
 have d:=e.1;have q:=a.o6;have r:=a.o5;have f:=a.ib;obtain⟨ms,hm,c,i⟩:=a.io;refine⟨a.e.trans e,a.c5.ext e,a.bl.cW (a.bl.lt.imp id λg=>e.2 _ g.2) d,a.LM,a.vo.ext e,a.vb,⟨ms,hm,c.ext e,λj hj=>(i j hj).imp id ?_⟩,f.imp id λg=>g.imp id λg=>⟨g.1,by omega⟩,a.o1,a.o2,a.o3,a.o4,a.o5,by omega⟩;rintro⟨b',nm,so,g1,k,b,m,o⟩;have p:=c.lt;refine⟨b',nm,so,g1,k,b,?_,o⟩;rw[e.2 b' (by
  rcases p with g | g
  ·rw[g]at b;exact absurd b (by show ¬ b'.num<K.num .h;have:=K.qX b';simp[K.num];omega)
  ·omega)]
 exact m
def QS.ame(a:QS ei h0 n0 h n b5 lb li lv nL x kv vl vv vi l inner vs){i:Nat}(hi:i<vs.length){p:S×S}(b:bA vv.blk h h')(c:h' vv.blk=some (.c (fU (vs.set i p)) 37 0)):QS ei h0 n0 h' n b5 lb li lv nL x kv vl vv vi l inner (vs.set i p):=by
 have o1:=a.o1;have o2:=a.o2;have o3:=a.o3;have o4:=a.o4;have o5:=a.o5;have o6:=a.o6;have f:vv≠.ns:=by
  intro e;rcases a.vo with ⟨g,_⟩ | ⟨_,g,d,_⟩
  ·have:=g.nil e;omega
  ·omega
 obtain⟨v1,v⟩:=a.vb.resolve_left f;have k:=a.ib;have w:=a.bl.lt;have m:=a.LM;obtain⟨ms,hm,o,q⟩:=a.io;have r:vv=.su vv.blk 0 vs.length 2:=by
  rcases a.vo with ⟨g,_⟩ | ⟨_,g,d,_⟩
  ·exact(g.su.resolve_left f).1
  ·omega
 refine⟨a.e.Ξ b (by omega),a.c5.Ξ b (by omega),a.bl.cW (m.imp id λg=>b _ (by omega)) (ξ _),a.LM,?_,a.vb,⟨ms,hm,o.cW (k.imp id λg=>b _ (by omega)) (ξ _),λj hj=>(q j hj).imp id ?_⟩,a.ib,a.o1,a.o2,a.o3,a.o4,a.o5,a.o6⟩
 ·refine Or.inl ⟨⟨by rw[IM,j5],Or.inr ⟨by rw[j5];omega,vv.blk,by rw[j5];exact r,c⟩⟩,Or.inr (by omega)⟩
 ·rintro⟨b',nm,so,g1,d,s,t,u⟩;exact⟨b',nm,so,g1,d,s,by rw[b b' (by omega)];exact t,u⟩
def QS.app(a:QS ei h0 n0 h n b5 lb li lv nL x kv vl vv vi l inner vs){nm so i:S}{b':K}(p:Ext h n h1 n1)(hb:n.num<=b'.num)(u:b'.num<n1.num)(v:h1 b'=some (.c (UT i so) 35 0))(m:Ext h1 n1 h2 n2)
 (ms:List V)(hm:ms.length=inner.length)(w:∀j (hj:j<inner.length),En h0 n0 h nL vi (ms[j]'(by omega)) inner[j])(o3:dB h3 ei 2 Zt (inner.length+1) (jS inner ms++[st nm,.sl b' 0 1 1]))(d:Zt.blk=n2)(H:n3.num=n2.num+1)(q:∀b:K,b.num<n2.num->(vi=.ns\/b.num≠vi.blk.num)->h3 b=h2 b):
 QS ei h0 n0 h3 n3 b5 lb li lv nL x kv vl vv Zt l (inner++[(nm,dJ i so)]) vs:=by
 have o1:=a.o1;have o2:=a.o2;have y:=a.o3;have o4:=a.o4;have o5:=a.o5;have o6:=a.o6;have I:=p.1;have J:=m.1;have o:=a.ib;have r:=a.LM;have s:=a.vb;have L:=a.e.1;have z:=p.trans m;have key:∀b:K,b.num<n.num->(vi=.ns\/b.num≠vi.blk.num)->h3 b=h b:=λb h1 h2=>by rw[q b (by omega) h2,z.2 b h1]
 have f:∀b:K,b.num<li.num\/(lv.num<=b.num/\b.num<nL.num)->h3 b=h b:=λb g=>key b (by omega) (o.imp id λk=>by omega);refine⟨⟨by omega,λk A=>by rw[f k (by omega),a.e.2 k A]⟩,⟨by have:=a.c5.1;omega,by rw[f _ (by omega)];exact a.c5.2⟩,a.bl.cW (r.imp id λg=>f _ (by omega)) (by omega),r,a.vo.cW (s.imp id λg=>f _ (by omega)) (by omega),s,⟨ms++[.sl b' 0 1 1],by simp[hm],?_,λj hj=>?_⟩,Or.inr (Or.inr ⟨by rw[d];omega,by rw[d];omega⟩),o1,o2,y,o4,o5,by omega⟩
 ·rw[LG hm,jz];exact Or.inl ⟨o3,Or.inr (by rw[d];omega)⟩
 ·by_cases t:j<inner.length
  ·rw[List.getElem_append_left t,List.getElem_append_left (by omega)];refine(w j t).imp id ?_;rintro⟨b,m1,B,g1,C,D,E,F⟩;have G:vi≠.ns:=λe=>by rw[e]at D;have:=K.qX b;have:K.num (V.ns).blk=1:=rfl;omega
   have M:=o.resolve_left G;exact⟨b,m1,B,g1,C,by rw[d];omega,by rw[key b (by omega) (Or.inr (by omega))];exact E,F⟩
  ·have:j=inner.length:=by simp at hj;omega
   subst this;rw[List.getElem_append_right (by omega),List.getElem_append_right (by omega)];simp only[hm,kY,zf];refine Or.inr ⟨b',i,so,rfl,by omega,by rw[d];omega,?_,rfl⟩;rw[q b' (by omega) (o.imp id λk=>by omega),m.2 b' u];exact v
def QS.bi(a:QS ei h0 n0 h n b5 lb li lv nL x kv vl vv vi l inner vs):fL h n vi inner:=by
 obtain⟨ms,hm,c,d⟩:=a.io;refine⟨ms,hm,c.sl,λj hj=>?_⟩;rcases d j hj with g | ⟨b,m1,p,g1,q,f,k,m⟩
 ·exact g.ext a.e
 ·rw[g1,m];have o:vi≠.ns:=λe=>by rw[e]at f;have:=K.qX b;have:K.num (V.ns).blk=1:=rfl;omega
  have:=c.lt.resolve_left o;exact⟨[(.ns,.ns)],rfl,κ.whole (len:=1) (z:=5) (by omega) k rfl,λi hi=>by
   have:i=0:=by simp[dJ]at hi;exact hi
   subst this;exact⟨κ.ns _ _ _,κ.ns _ _ _⟩⟩
def QS.Ξ(a:QS ei h0 n0 h n b5 lb li lv nL x kv vl vv vi l inner vs){b:K}(c:bA b h h')(g1:n0.num<=b.num)(d:b.num≠b5.num)(f:b.num<lb.num):QS ei h0 n0 h' n b5 lb li lv nL x kv vl vv vi l inner vs:=by have o3:=a.o3;have o4:=a.o4;have o5:=a.o5;have i:=a.ib;have k:=a.bl.lt;have m:=a.vb;obtain⟨ms,hm,o,p⟩:=a.io;refine⟨a.e.Ξ c g1,a.c5.Ξ c (by omega),a.bl.cW (k.imp id λg=>c _ (by omega)) (ξ _),a.LM,a.vo.cW (m.imp id λg=>c _ (by omega)) (ξ _),a.vb,⟨ms,hm,o.cW (i.imp id λg=>c _ (by omega)) (ξ _),λj hj=>(p j hj).imp id ?_⟩,a.ib,a.o1,a.o2,a.o3,a.o4,a.o5,a.o6⟩;rintro⟨b',nm,so,g1,d,f,q,r⟩;exact⟨b',nm,so,g1,d,f,by rw[c b' (by omega)];exact q,r⟩
end
end
end Go.Ev.X
namespace Go.Ev.X
open Go Go.Ev
attribute [local irreducible] WC WO WD SO μ
section
variable {C:Nat->Option aE}
def Wh.lt{h h':Hf}{lo hi n:K}{w:V}{x:List (List Nd)}(a:Wh h lo hi w x)(s:∀b:K,lo.num<=b.num->b.num<hi.num->h' b=h b)(e:hi.num<=n.num):nQ h' n w x:=(a h' s).ext ⟨e,λ_ _=>rfl⟩
section
variable {h0 hS:Hf}{n0 nS b5 lb li lv nL b9 b12 cY lo hi:K}{x:Nd}{kv vl vv vi vk Zv Zw p7:V}{l inner:List Bi}{vs:List (S×S)}{ks:List (List Nd)}{N:Nat}
def amg(g:Cd C)(a:QS 39 h0 n0 hS nS b5 lb li lv nL x kv vl vv vi l inner vs)(z:Wh hS lo hi vk ks)(Q:hi.num<=nS.num)(hb:nS.num<=cY.num)(o:l.length<1000000)(A:ks.length<1000000)(t:vs.length<1000000)(q:∀b∈l,Rt b.2)(B:∀k∈ks,Rt k)(nl:∀b∈l,hY N b.2)(nv:∀v∈vs,v.1.length<=N)(nk:∀k∈ks,hY N k)(R:N<1000000){Q1:Ex->Env->Hf->K->Prop}{s0:S}
 (D:∀h n E',Ext hS nS h n->Cl h n cY [st s0] 9->Θ [(k1,vl),(k5,.p b5 0),(k8,vk),(k9,.p b9 0),(sx,p7),(lW,.p b12 0),(pT,.p cY 0),(Nr,vv),(Ns,Zv),(Nt,Zw)] E'->Q1 .normal E' h n):
 ∀(f:Nat) (s:S) (h:Hf) (n:K),Ext hS nS h n->Cl h n cY [st s] 9->fresh l vs ks f s=s0->N+1<s.length+f->s.length<=N+1->WC C RB [(k1,vl),(k5,.p b5 0),(k8,vk),(k9,.p b9 0),(sx,p7),(lW,.p b12 0),(pT,.p cY 0),(Nr,vv),(Ns,Zv),(Nt,Zw)] h n (blk 2 Q1):=by
 intro f
 induction f with
 | zero=>
  intro s h n e c hf h1 h2;omega
 | succ f ih=>
  intro s h n e c hf h1 h2;have a':=a.ext e;have r:=a'.bl.bi a'.e;have F:nQ h n vk ks:=z.lt (λb _ h2=>e.2 b (by omega)) (by have:=e.1;omega);have again:∀{h' n' E},taken l vs ks s=true->Ext h n h' n'->Θ [(k1,vl),(k5,.p b5 0),(k8,vk),(k9,.p b9 0),(sx,p7),(lW,.p b12 0),(pT,.p cY 0),(Nr,vv),(Ns,Zv),(Nt,Zw)] E->WC C aes E h' n' (sq C (.exit 2) (blk 3 (sq C (.loop RC) (blk 2 Q1)))):=by
   intro h' n' E ht ex sE;refine dO sE ?_;refine ε<|ν U ((c.ext ex).ld U _)<|Q0 (b:=[39]) U U (by simp only[eh,mW];omega)<|aR U U ((c.ext ex).2) (mB rfl rfl rfl) <| λG H b4=>δ ?_;refine bG<|au (ih (s++[39]) G n' ((e.trans ex).Ξ b4 hb) ⟨(c.ext ex).1,H⟩ ?_ ?_ ?_) (Θ.rf U)
   ·rw[←hf,fresh,ab ht]
   ·simp;omega
   ·by_cases hs:s.length<=N
    ·simp;omega
    ·rw[LL nl nv nk (by omega)]at ht;cases ht
  refine aF<|aA ?_;by_cases hm:kM s l=true
  ·refine φ<|ε<|γ U<|ν U (c.ld U _)<|ah U U<|Gf g r o q <| λh1 n1 d=>γ U<|θ U (hm)<|θ U (hm)<|θ U (hm)<|θ U (hm)<|bh U (hm) U<|γ U<|θ U U<|θ U U<|θ U U<|bh U U U<|δ ?_;exact ax U U (again (by simp[taken,hm]) d (Θ.rf U))
  simp only[sN]at hm;by_cases hv:s∈vs.map Prod.fst
  ·refine φ<|ε<|γ U<|ν U (c.ld U _)<|ah U U<|Gf g r o q <| λh1 n1 d=>γ U<|ζ U (hm)<|χ U<|ζ U (hm)<|ν U ((a'.c5.ext d).ld U _)<|ζ U (hm)<|ν U ((c.ext d).ld U _)<|ζ U (hm)<|ah U U<|uI g ((a'.ext d).vo.sl) t <| λh2 I i=>aW U (hm) U<|γ U<|θ U (by simp[hv])<|θ U (by simp[hv])<|θ U (by simp[hv])<|bh U (by simp[hv]) U<|δ ?_;exact ax U U (again (by simp[taken,hv]) (d.trans i) (Θ.rf U))
  refine φ<|ε<|γ U<|ν U (c.ld U _)<|ah U U<|Gf g r o q <| λh1 n1 d=>γ U<|ζ U (hm)<|χ U<|ζ U (hm)<|ν U ((a'.c5.ext d).ld U _)<|ζ U (hm)<|ν U ((c.ext d).ld U _)<|ζ U (hm)<|ah U U<|uI g ((a'.ext d).vo.sl) t <| λh2 I i=>aW U (hm) U<|γ U<|ζ U (by simp[hv])<|γ U<|ζ U (by simp[hv])<|rD U U<|ζ U (by simp[hv])<|ah U U<|al2 g (p:=fM s) (F.ext (d.trans i)) A (λy m h' n' Q' J tm L M=>al3 g tm (B y J) (c.ext ((d.trans i).trans L)) M) <| λO P u=>aW U (by simp[hv]) U<|δ ?_;by_cases j:wC s ks=true
  ·exact ax U j (again (by simp[taken,j]) ((d.trans i).trans u) (Θ.rf U))
  ·simp only[sN]at j;refine az U j<|ay<|bG ?_;have w:=(d.trans i).trans u;have:s0=s:=by rw[←hf,fresh,Γ (by simp[taken,hm,hv,j])]
   subst this;exact D O P _ (e.trans w) (c.ext w) (Θ.rf U)
end
end
end Go.Ev.X
namespace Go.Ev.X
open Go Go.Ev
section
section
variable {l:List Bi}{ks:List (List Nd)}{vs:List (S×S)}{N F:Nat}
def Gk:∀i,(rn F l ks vs i).1.length=vs.length
 | 0=>rfl
 | i+1=>by
  have:=Gk i;unfold rn xh;split
  ·split
   ·simp[this]
   ·exact this
  ·exact this
def Gm{j:Nat}:∀(i:Nat),i<=j->(rn F l ks vs i).1[j]?=vs[j]?
 | 0,_=>rfl
 | i+1,h=>by
  have:=Gm i (show i<=j by omega);unfold rn xh;split
  ·split
   ·rw[List.getElem?_set_ne (by omega)];exact this
   ·exact this
  ·exact this
def UU{i:Nat}(hi:i<vs.length):rn F l ks vs (i+1)=if kM vs[i].1 l=true then ((rn F l ks vs i).1.set i (fresh l (rn F l ks vs i).1 ks F (vs[i].1++[39]),vs[i].2),(rn F l ks vs i).2++[(vs[i].1,dJ (fresh l (rn F l ks vs i).1 ks F (vs[i].1++[39])) vs[i].2)]) else rn F l ks vs i:=by have h:=Gm (F:=F) (l:=l) (ks:=ks) (vs:=vs) (j:=i) i (ξ _);rw[aX hi]at h;rw[rn,xh,h]
def yz(h1:∀b∈l,hY N b.2)(h2:∀v∈vs,v.1.length<=N)(c:∀k∈ks,hY N k):∀i,(∀v∈(rn F l ks vs i).1,v.1.length<=N+i)/\∀b∈(rn F l ks vs i).2,b∈l\/∃a nm so,b=(a,dJ nm so)/\nm.length<=N+i
 | 0=>⟨h2,λb hb=>Or.inl hb⟩
 | i+1=>by
  have ih:=yz h1 h2 c i;have hf:∀s,s.length<=N+i+1->(fresh l (rn F l ks vs i).1 ks F s).length<=N+i+1:=λs hs=>
   US (N:=N+i) (λb hb=>(h1 b hb).mono (by omega)) ih.1 (λk e=>(c k e).mono (by omega)) _ s hs
  have cW:(∀v∈(rn F l ks vs i).1,v.1.length<=N+(i+1))/\∀b∈(rn F l ks vs i).2,b∈l\/∃a nm so,b=(a,dJ nm so)/\nm.length<=N+(i+1):=
   ⟨λv hv=>by have:=ih.1 v hv;omega,λb hb=>(ih.2 b hb).imp id λ⟨a,nm,so,g1,f⟩=>⟨a,nm,so,g1,by omega⟩⟩
  by_cases hi:i<vs.length
  ·rw[UU hi];split
   ·have d:=hf (vs[i].1++[39]) (by have:=h2 _ (bL hi);simp;omega);refine⟨λv hv=>?_,λb hb=>?_⟩
    ·rcases List.mem_or_eq_of_mem_set hv with g | g
     ·exact cW.1 v g
     ·rw[g];exact d
    ·rcases eG.1 hb with g | g
     ·exact cW.2 b g
     ·rw[gF]at g;exact Or.inr ⟨_,_,_,g,d⟩
   ·exact cW
  ·have:rn F l ks vs (i+1)=rn F l ks vs i:=by
    have h:=Gm (F:=F) (l:=l) (ks:=ks) (vs:=vs) (j:=i) i (ξ _);rw[show vs[i]?=none from ml (by omega)]at h;rw[rn,xh,h]
   rw[this];exact cW
def LN:∀i,(rn F l ks vs i).2.length<=l.length+i
 | 0=>ξ _
 | i+1=>by
  have:=LN i;unfold rn xh;split
  ·split
   ·simp;omega
   ·omega
  ·omega
end
def amh{nm so:S}(h:nm.length<1000000):Rt (dJ nm so):=by
 have hi:∀i,i<(dJ nm so).length->i=0:=λi hi=>by simp[dJ]at hi;exact hi
 refine⟨Bd.of (by simp[dJ]) λy a=>?_,by simp[dJ],λj hj=>?_⟩
 ·simp only[dJ,gF]at a;subst a;exact⟨by simp,h,by simp,by simp⟩
 ·have:=hi j hj;subst this;rfl
def ami{nm so:S}{N:Nat}(h:nm.length<=N):hY N (dJ nm so):=by intro y a;simp only[dJ,gF]at a;subst a;exact⟨h,by simp⟩
def UW{a:S}:∀{l:List (S×S)} {i:Nat} (h:i<l.length),cJ [st a] (fU l) (i*2)=some (fU (l.set i (a,l[i].2)))
 | [],i,h=>by simp at h
 | p::l,0,_=>by obtain⟨x,y⟩:=p;simp[fU,cJ,over]
 | p::l,i+1,h=>by obtain⟨x,y⟩:=p;rw[show(i+1)*2=i*2+1+1 by omega];simp only[fU,cJ,UW (show i<l.length by simpa using h),qe,oV]
end
end Go.Ev.X
namespace Go.Ev.X
open Go Go.Ev
attribute [local irreducible] WC WO WD SO μ
section
variable {C:Nat->Option aE}
def Wh.cW{h h':Hf}{lo hi:K}{w:V}{x:List (List Nd)}(a:Wh h lo hi w x)(s:∀b:K,lo.num<=b.num->b.num<hi.num->h' b=h b):Wh h' lo hi w x:=λg c=>a g λb b1 b2=>(c b b1 b2).trans (s b b1 b2)
section
variable {h0:Hf}{n0 b5 lb li lv nL b9 lo hi:K}{x:Nd}{kv vl vv vk:V}{l:List Bi}{vars:List (S×S)}{ks:List (List Nd)}{N F:Nat}
def amj(G:Cd C)(h59:b5.num<lo.num)(I:hi.num<=b9.num)(h9b:b9.num<lb.num)(h95:b5.num<b9.num)(iF:l.length<1000000)(eB:ks.length<1000000)(om:vars.length<1000)(rl:∀b∈l,Rt b.2)(rk:∀k∈ks,Rt k)(nl:∀b∈l,hY N b.2)(nv:∀v∈vars,v.1.length<=N)(nk:∀k∈ks,hY N k)(hN:N<990000)(hF:N+1002<F){Q1:Ex->Env->Hf->K->Prop}
 (hQ:∀vi h n E',QS 39 h0 n0 h n b5 lb li lv nL x kv vl vv vi l (rn F l ks vars vars.length).2 (rn F l ks vars vars.length).1->Wh h lo hi vk ks->Cl h n b9 [vi] 111->Θ [(k5,.p b5 0),(k8,vk),(k9,.p b9 0)] E'->Q1 .normal E' h n):
 ∀(r i:Nat) (vi:V) (h:Hf) (n:K),vars.length - i=r->i<=vars.length->QS 39 h0 n0 h n b5 lb li lv nL x kv vl vv vi l (rn F l ks vars i).2 (rn F l ks vars i).1->Wh h lo hi vk ks->Cl h n b9 [vi] 111->WC C RA [(k1,vl),(k5,.p b5 0),(k8,vk),(k9,.p b9 0),(Nr,vv),(Ns,iN vars.length),(Nt,iN i)] h n (blk 0 Q1):=by
 intro r
 induction r with
 | zero=>
  intro i vi h n J fZ a y L;have:i=vars.length:=by omega
  subst this;refine aF ?_;refine ε<|aH U U<|δ ?_;exact φ<|az U (by simp)<|bG (hQ vi h n _ a y L (Θ.rf U))
 | succ r ih=>
  intro i vi h n J fZ a y L;have M:i<vars.length:=by omega
  have lC:(rn F l ks vars i).1.length=vars.length:=Gk i;have O:=yz (F:=F) (l:=l) (ks:=ks) (vs:=vars) nl nv nk i;have A:=UU (F:=F) (l:=l) (ks:=ks) M;have B:=Gm (F:=F) (l:=l) (ks:=ks) (vs:=vars) (j:=i) i (ξ _);have hnv:=nv _ (bL M);obtain⟨vs,inner,UX⟩:∃vs inner,rn F l ks vars i=(vs,inner):=⟨_,_,rfl⟩;rw[UX]at a lC O A B;simp only at a lC O A B;have G7:vs[i]'(by omega)=vars[i]:=by rw[aX (by omega),aX M]at B;injection B
  have o1:=a.o1;have o2:=a.o2;have o3:=a.o3;have o4:=a.o4;have o5:=a.o5;have o6:=a.o6;have hB:dV h n vv vs:=a.vo.sl;have hga:=hB.jG (i:=i) (by omega);rw[G7]at hga;refine aF ?_;refine ε<|aH U U<|δ ?_;refine φ<|ax U (by simp;omega)<|ay ?_;refine φ<|aA<|ε<|γ U<|aV U U hB (by omega)<|ν U hga<|bN <| λh1 n1 dd a1 e1=>γ U<|aR U U a1 (bS (l:=[.s 0 0,.s 0 0]) U U U) <| λh2 a2 b2=>δ ?_;have b2:bA n h1 h2:=b2;have x2:Ext h n h2 n1:=e1.Ξ b2 (ξ _);have mR:Cl h2 n1 n [st vars[i].1,st vars[i].2] 37:=⟨by omega,a2⟩;have aa:=a.ext x2;refine ES ?_;refine φ<|ε<|γ U<|χ U<|ν U (mR.ld U _)<|ah U U<|Gf G (aa.bl.bi aa.e) iF rl <| λP q Q=>cz U<|δ ?_;have f:=x2.trans Q;have c9':=L.ext f;have kk':=y.cW (h':=P) λb _ h2=>f.2 b (by omega);by_cases hm:kM vars[i].1 l=true
  case neg=>
   simp only[sN]at hm;refine ax U (by rw[hm];rfl)<|bG ?_;refine aP<|cj U U ⟨by omega,by omega⟩<|γ U<|δ ?_;have e0:rn F l ks vars (i+1)=(vs,inner):=by rw[A,Γ (by rw[hm];decide)]
   refine au (ih (i+1) vi P q (by omega) (by omega) ?_ kk' c9') (Θ.rf U);rw[e0];exact a.ext f
  refine az U (by rw[hm];rfl)<|ay ?_;refine ε<|χ U<|ν U ((mR.ext Q).ld U _)<|Q0 (b:=[39]) U U (by simp only[eh,mW];omega)<|bN <| λh5 R pC a5 e5=>aR U U a5 (mB rfl rfl rfl) <| λD a6 b6=>δ ?_;have b6:bA q h5 D:=b6;have x6:Ext P q D R:=e5.Ξ b6 (ξ _);have x36:=f.trans x6;have a3:=a.ext f;have jR:Cl D R q [st (vars[i].1++[39])] 9:=⟨by omega,a6⟩;refine φ<|ay ?_;generalize xM:fresh l vs ks F (vars[i].1++[39])=nm at*;have z3:=f.1;refine φ<|aA<|au (amg G (s0:=nm) (N:=N+i) a3 kk' (by omega) (ξ _) iF eB (by omega) rl rk (λb hb=>(nl b hb).mono (by omega)) O.1 (λk hk=>(nk k hk).mono (by omega)) (by omega) ?_ F (vars[i].1++[39]) D R x6 jR xM (by simp;omega) (by simp;omega)) (Θ.rf U);intro h7 t E7 u d13 s;refine dO s ?_;have m:=a3.ext u;have d12:=mR.ext (Q.trans u);have d9:=c9'.ext u;have z7:=u.1;have aG:vv≠.ns:=by
   intro e;rcases m.vo with ⟨g,_⟩ | ⟨_,g,T,_⟩
   ·have:=g.nil e;omega
   ·omega
  obtain⟨v1,v2⟩:=m.vb.resolve_left aG;have yx:vv=.su vv.blk 0 vs.length 2/\h7 vv.blk=some (.c (fU vs) 37 0):=by
   rcases m.vo with ⟨g,_⟩ | ⟨_,g,T,_⟩
   ·exact g.su.resolve_left aG
   ·omega
  have C7:vv.off=0:=by rw[yx.1];rfl
  have ue:lT (fU vs) 0 (vv.off+i*2+0) 1 (st nm)=some (fU (vs.set i (nm,vars[i].2))):=by rw[C7];refine mB rfl rfl ?_;rw[eV,j6,UW (by omega),G7]
  refine ε<|χ U<|ν U (m.c5.ld U _)<|γ U<|ν U (d13.ld U _)<|aV U U m.vo.sl (by omega)<|χ U<|aR U U yx.2 ue <| λo a8 b8=>δ ?_;have W:=m.ame (i:=i) (p:=(nm,vars[i].2)) (by omega) b8 a8;obtain⟨ms,Ht,X,xg⟩:=W.io;have oM:inner.length<=l.length+i:=by have:=LN (F:=F) (l:=l) (ks:=ks) (vs:=vars) i;rw[UX]at this;exact this
  have f12:Cl o t n [st vars[i].1,st vars[i].2] 37:=d12.Ξ b8 (by omega);have f13:Cl o t q [st nm] 9:=d13.Ξ b8 (by omega);have f9:Cl o t b9 [vi] 111:=d9.Ξ b8 (by omega);have pX:=W.ib;have l12:∀{H:Hf},Ag t o H->bc H false 1 (.p n (0+0))=some (st vars[i].1):=λag=>(f12.ext (ag.x (ξ _))).ld U _;have l9:∀{H:Hf},Ag t o H->bc H false 1 (.p b9 0)=some vi:=λag=>(f9.ext (ag.x (ξ _))).ld U _;refine rB<|aO U (f9.ld U _) (κ.below X.sl (ξ _)) (κ.dL X.sl)<|cI U<|aO U (f12.ld U _) U (iR _ _)<|aO U (f13.ld U _) U (iR _ _)<|cI U<|aO U (f12.ld U _) U (iR _ _)<|ch U U<|w28 G.f28 <| λb' I E d pg gH J=>tc U<|th U <| λjK dQ Ub sr w=>Tt U (X.ext (d.trans w)) U (κ.whole (len:=1) (z:=2) (by omega) sr rfl) (by omega) (by omega) (by omega) (by omega) U <| λv11 Y uO Z Oo TY Zy=>fK U U ((Zy b9 (by have:=d.1;omega) (pX.imp id λg=>by omega)).trans ((w.2 b9 (by have:=d.1;omega)).trans ((d.2 b9 (by omega)).trans f9.2))) (mB Z.sl.cells Z.sl.one U) <| λhU CW b12=>df (⟨⟨al (by simp[Nat.testBit]),al (by simp[Nat.testBit]),al (by simp[Nat.testBit]),trivial⟩,⟨al (by simp[Nat.testBit]),al (by simp[Nat.testBit]),al (by simp[Nat.testBit]),trivial⟩,⟨al (by simp[Nat.testBit]),al (by simp[Nat.testBit]),cT (l12 ((Ag.refl _ _).hp E none d.1)) (l12 (d.ag.hp E none d.1)),trivial⟩,⟨al (by simp[Nat.testBit]),al (by simp[Nat.testBit]),cT (l9 ((Ag.refl _ _).hp E none d.1)) (l9 (d.ag.hp E none d.1)),trivial⟩,trivial⟩) ?_;have z9:=d.1;have z10:=w.1;have LH:dB Y 39 2 v11 (inner.length+1) (jS inner ms++[st vars[i].1,.sl b' 0 1 1]):=by
   rcases Z with ⟨g,_⟩ | ⟨_,_,T,_⟩
   ·exact g
   ·omega
  have AZ:=W.app (nm:=vars[i].1) d pg gH J w ms Ht xg LH Oo TY Zy;have b12:bA b9 Y hU:=b12;have amo:=AZ.Ξ (h':=hU) b12 (by omega) (by omega) h9b;refine aP<|cj U U ⟨by omega,by omega⟩<|γ U<|δ ?_;refine au (ih (i+1) v11 hU uO (by omega) (by omega) ?_ ?_ ⟨by omega,CW⟩) (Θ.rf U)
  ·rw[A,ab hm];exact amo
  ·refine y.cW λb g1 T=>?_;rw[b12 b (by omega),show Y b=jK b from Zy b (by omega) (pX.imp id λg=>by omega),show jK b=I b from w.2 b (by omega),show I b=o b from d.2 b (by omega),b8 b (by omega),u.2 b (by omega),f.2 b (by omega)]
end
end
end Go.Ev.X
namespace Go.Ev.X
open Go Go.Ev
section
def Bl(t:List Nd):Prop:=0<t.length/\∀i (hi:i<t.length),∀k∈t[i].kids,0<=k/\k<(i:Int)
def Rt.lts{t:List Nd}(r:Rt t):Bl t:=⟨r.pos,λi hi k a=>by have:=jL (r.ord i hi) k (by rw[jW hi];exact a);exact⟨this.2,this.1⟩⟩
def Bl.kr{t:List Nd}(r:Bl t):KR t:=⟨r.1,λx a k b=>by obtain⟨i,hi,rfl⟩:=fD a;have:=r.2 i hi k b;omega⟩
def UY:∀(l:List (List Nd)) (s:List Nd×List Int),(∀i (hi:i<s.1.length),∀k∈s.1[i].kids,0<=k/\k<(i:Int))->(∀t∈l,Bl t)->∀i (hi:i<(l.foldl gD s).1.length),∀k∈(l.foldl gD s).1[i].kids,0<=k/\k<(i:Int)
 | [],s,h,_=>h
 | t::l,s,h,g=>by
  refine UY l (gD s t) (λi hi k a=>?_) λu b=>g u (by simp[b]);simp only[gD]at hi a;by_cases hs:i<s.1.length
  ·rw[List.getElem_append_left hs]at a;exact h i hs k a
  ·rw[List.getElem_append_right (by omega),List.getElem_map]at a;obtain⟨k',c,rfl⟩:=List.mem_map.1 (show k∈(t[i - s.1.length]'(by simp at hi;omega)).kids.map _ from a);have:=(g t (by simp)).2 (i - s.1.length) (by simp at hi;omega) k' c;omega
def amq{x:Nd}{l:List (List Nd)}(h:∀t∈l,Bl t):Bl (cM x l):=by
 have h1:=UY l ([],[]) (λi hi=>by simp at hi) h;have h2:=alI (x:=x) λt ht=>(h t ht).kr;have g:(l.foldl gD ([],[])).1.length=lens l:=(qF l).1;refine⟨by rw[oc];omega,λi hi k a=>?_⟩;rw[oc]at hi;by_cases b:i<(gK l).1.length
 ·have e:(cM x l)[i]'(by rw[oc];exact hi)=(gK l).1[i]:=List.getElem_append_left b;rw[e]at a;exact h1 i b k a
 ·have j:i=lens l:=by have:(gK l).1.length=lens l:=(qF l).1;omega
  have c:=Us l ([],[]) (λy d=>by cases d) (λk a=>by cases a) (λt ht=>(h t ht).kr);have e:(cM x l)[i]'(by rw[oc];exact hi)=wk x (gK l).2:=by unfold cM;rw[List.getElem_append_right (by omega)];simp only[List.getElem_singleton]
  rw[e]at a;have:=c.2 k a;omega
def LO:∀a b:List (List Nd),lens (a++b)=lens a+lens b
 | [],b=>by simp[lens]
 | t::a,b=>by simp only[j8,lens,LO a b];omega
def UZ:∀a:List (List Nd),lens a.reverse=lens a
 | []=>rfl
 | t::a=>by rw[List.reverse_cons,LO,UZ a];simp[lens];omega
def U0{ts:List Nd}:∀(ks:List Int) (next:Int),next<(ts.length:Int)->cS (fs ts) ks next=true->(lens (ks.map λk=>part ts k.toNat):Int)<=next\/(ks=[]/\next<0)
 | [],next,_,_=>by
  by_cases h:0<=next
  ·left;simpa[lens]using h
  ·right;exact⟨rfl,by omega⟩
 | k::ks,next,b,h=>by
  unfold cS at h;split at h
  ·cases h
  ·rename_i c;have d:0<=k:=by omega
   have e:k=next - 1:=by omega
   have j:=fw ts k.toNat;have a:=hJ (ts:=ts) (i:=k.toNat) (by omega);left;rcases U0 ks (fs ts k.toNat) (by omega) h with g | ⟨g,m⟩
   ·simp only[eY,lens,a];omega
   ·omega
def amr{ts:List Nd}(r:Rt ts):lens (parts ts)+1<=ts.length:=by have h0:=r.pos;have a:=r.ord (ts.length - 1) (by omega);unfold ord at a;have:=U0 (bO ts (ts.length - 1)).reverse ((ts.length - 1:Nat):Int) (by omega) a;rw[List.map_reverse,UZ]at this;unfold parts;omega
def U1{M:Nat}{g:List Nd->List Nd}:∀{l:List (List Nd)},(∀t∈l,(g t).length<=t.length*M)->lens (l.map g)<=lens l*M
 | [],_=>by simp[lens]
 | t::l,h=>by have h1:=h t (by simp);have h2:=U1 (l:=l) λu a=>h u (by simp[a]);simp only[eY,lens,ie];omega
structure PC(f N M:Nat)(ts:List Nd)(l:List Bi):Prop where
 rt:Rt ts
 len:ts.length<=f
 nm:hY N ts
 LP:∀b∈l,Rt b.2
 uV:∀b∈l,hY N b.2
 bl:∀b∈l,b.2.length<=M
 m1:1<=M
 sz:ts.length*M<=90000
 nb:N+1000*f<=900000
 ll:l.length+1000*f<=500000
section
variable {F f N M:Nat}{ts:List Nd}{l:List Bi}
def Gn(h:hY N ts)(i:Nat):hY N (part ts i):=by intro y a;obtain⟨z,b,rfl⟩:=List.mem_map.1 a;exact h z (zg (tN b))
def PC.part(p:PC (f+1) N M ts l){k:List Nd}(a:k∈parts ts):Rt k/\k.length<=f/\hY N k/\k.length*M<=90000:=by obtain⟨j,hj,rfl⟩:=fD a;have h:=p.rt.parts hj;have h1:=p.len;refine⟨h.1,by omega,?_,eF (gE M (fC h.2)) p.sz⟩;obtain⟨q,_,b⟩:=List.mem_map.1 a;rw[←b];exact Gn p.nm _
def PC.jM(p:PC (f+1) N M ts l){k:List Nd}(a:k∈parts ts):PC f N M k l:=
 ⟨(p.part a).1,(p.part a).2.1,(p.part a).2.2.1,p.LP,p.uV,p.bl,p.m1,(p.part a).2.2.2,by have:=p.nb;omega,by have:=p.ll;omega⟩
def PC.root(p:PC f N M ts l){x:Nd}(a:x∈ts):x.vars.length<1000/\(∀v∈x.vars,v.1.length<=N)/\Bn x:=⟨(p.rt.bd.bn x a).2.2.1,(p.nm x a).2,p.rt.bd.bn x a⟩
def PC.rel(p:PC f N M ts l):(∀b∈cK ts l,Rt b.2)/\(∀b∈cK ts l,hY N b.2)/\(∀b∈cK ts l,b.2.length<=M)/\(cK ts l).length<=l.length:=
 ⟨λb hb=>p.LP b (List.mem_filter.1 hb).1,λb hb=>p.uV b (List.mem_filter.1 hb).1,λb hb=>p.bl b (List.mem_filter.1 hb).1,List.length_filter_le _ _⟩
def PC.y8(p:PC (f+1) N M ts l){x:Nd}(e:x∈ts){k:List Nd}(c:k∈parts ts):PC f (N+1000) M k (rn F (cK ts l) (parts ts) x.vars x.vars.length).2:=by
 obtain⟨h1,h2,i⟩:=p.root e;obtain⟨r1,r2,h,j⟩:=p.rel;have d:=yz (F:=F) (l:=cK ts l) (ks:=parts ts) (vs:=x.vars) r2 h2 (λk c=>(p.part c).2.2.1) x.vars.length;have hl:=LN (F:=F) (l:=cK ts l) (ks:=parts ts) (vs:=x.vars) x.vars.length;have hp:=p.part c;have nb:=p.nb;have ll:=p.ll;refine⟨hp.1,hp.2.1,hp.2.2.1.mono (by omega),λb hb=>?_,λb hb=>?_,λb hb=>?_,p.m1,hp.2.2.2,by omega,by omega⟩
 ·rcases d.2 b hb with g | ⟨a,nm,so,rfl,g⟩
  ·exact r1 b g
  ·exact amh (by omega)
 ·rcases d.2 b hb with g | ⟨a,nm,so,rfl,g⟩
  ·exact(r2 b g).mono (by omega)
  ·exact ami (by omega)
 ·rcases d.2 b hb with g | ⟨a,nm,so,rfl,g⟩
  ·exact h b g
  ·exact p.m1
end
def Ps(M:Nat)(ts u:List Nd):Prop:=Bd u/\Bl u/\u.length<=ts.length*M
def LQ{M:Nat}{ts:List Nd}{x:Nd}{g:List Nd->List Nd}(r:Rt ts)(m1:1<=M)(sz:ts.length*M<=90000)(c:Bn x)(h:∀k∈parts ts,Ps M k (g k)):Ps M ts (cM x ((parts ts).map g))/\Kd ((parts ts).map g):=by
 have e:=amr r;have n:=U1 (M:=M) (g:=g) (l:=parts ts) λt ht=>(h t ht).2.2;have o:=Am r.pos;have p:=r.bd.jM (ts.length - 1) (by have:=r.pos;omega);have h2:lens (parts ts)*M+M<=ts.length*M:=by have:=gE M e;rw[ie,Nat.one_mul]at this;exact this
 have a:∀t∈(parts ts).map g,Bd t/\Bl t:=λt ht=>by obtain⟨k,b,rfl⟩:=List.mem_map.1 ht;exact⟨(h k b).1,(h k b).2.1⟩
 have q:(parts ts).length<=lens ((parts ts).map g):=by
  have key:∀l:List (List Nd),(∀t∈l,0<t.length)->l.length<=lens l:=by
   intro l
   induction l with
   | nil=>intro _;exact oy _
   | cons t l ih=>
    intro d;have:=d t (by simp);have:=ih λu m=>d u (by simp[m]);simp only[lens,eh];omega
  have:=key ((parts ts).map g) λt ht=>(a t ht).2.1;simpa using this
 refine⟨⟨alH (by omega) (by rw[ji];omega) c.2.1 c.2.2.1 c.2.2.2 λt ht=>(a t ht).1,amq λt ht=>(a t ht).2,by rw[oc];omega⟩,by rw[ji];omega,by omega,λi hi=>(a _ (bL hi)).1,λi hi j hj k b=>?_⟩;have s:=(a _ (bL hi)).2.kr.2 _ (bL hj) k b;have v:=(a _ (bL hi)).1.len;omega
def ams{ts:List Nd}(h:0<ts.length):ts.getLast?=some (ts[ts.length - 1]'(by omega)):=by rw[List.getLast?_eq_getElem?,aX (by omega)]
def put_eq{F f:Nat}{ts:List Nd}{l:List Bi}(h:0<ts.length){n:Nd}(a:ts[ts.length - 1]'(by omega)=n):put F (f+1) ts l=
 if n.op=3 then (eD n.name l).getD ts
 else if n.op=17\/n.op=18 then
  cM { n with vars:=(rn F (cK ts l) (parts ts) n.vars n.vars.length).1} ((parts ts).map λk=>put F f k (rn F (cK ts l) (parts ts) n.vars n.vars.length).2)
 else cM n ((parts ts).map λk=>put F f k l):=by
 rw[put,ams h,a]
def De{F:Nat}:∀{f N M:Nat} {ts:List Nd} {l:List Bi},PC f N M ts l->Ps M ts (put F f ts l)
 | 0,N,M,ts,l,p=>by have:=p.len;have:=p.rt.pos;omega
 | f+1,N,M,ts,l,p=>by
  have h0:=p.rt.pos;have hm:=p.m1;have e:ts[ts.length - 1]'(by omega)∈ts:=bL _;obtain⟨v1,g,d⟩:=p.root e;have h:ts.length<=ts.length*M:=Nat.le_mul_of_pos_right _ hm;have i:M<=ts.length*M:=Nat.le_mul_of_pos_left _ h0;rw[put_eq h0 rfl];split
  ·cases hf:eD (ts[ts.length - 1]'(by omega)).name l with
   | none=>exact⟨p.rt.bd,p.rt.lts,h⟩
   | some b=>
    obtain⟨q,h1,h2⟩:=uS hf;have:=p.bl q h1;have a:=p.LP q h1;rw[h2]at this a;exact⟨a.bd,a.lts,by show b.length<=_;omega⟩
  ·split
   ·have a:=yz (F:=F) (l:=cK ts l) (ks:=parts ts) (vs:=(ts[ts.length - 1]'(by omega)).vars) p.rel.2.1 g (λk c=>(p.part c).2.2.1) (ts[ts.length - 1]'(by omega)).vars.length;have j:=Gk (F:=F) (l:=cK ts l) (ks:=parts ts) (vs:=(ts[ts.length - 1]'(by omega)).vars) (ts[ts.length - 1]'(by omega)).vars.length;have nb:=p.nb;have hB:Bn { (ts[ts.length - 1]'(by omega)) with vars:=(rn F (cK ts l) (parts ts) (ts[ts.length - 1]'(by omega)).vars (ts[ts.length - 1]'(by omega)).vars.length).1}:=
     ⟨d.1,d.2.1,by show(rn _ _ _ _ _).1.length<_;omega,λv hv=>by have:=a.1 v hv;omega⟩
    exact(LQ p.rt hm p.sz hB λk c=>De (p.y8 e c)).1
   ·exact(LQ p.rt hm p.sz d λk c=>De (p.jM c)).1
end
end Go.Ev.X
namespace Go.Ev.X
open Go Go.Ev
attribute [local irreducible] WC WO WD SO μ
section
variable {C:Nat->Option aE}{Q:V->Hf->K->Prop}
def Df(C:Nat->Option aE)(g F f:Nat):Prop:=∀{h:Hf} {n:K} {t vl:V} {ts:List Nd} {l:List Bi} {N M:Nat} {Q:V->Hf->K->Prop},bK h n t ts->fL h n vl l->PC f N M ts l->(∀v h' n',Ext h n h' n'->TG h' n n' v (put F f ts l)->Q v h' n')->μ C (.f g [] []) [t,vl] h n Q
def U2(d:Cd C){F f N M:Nat}(ih:Df C 53 F f){h0 h:Hf}{n0 n b5 m:K}{x:Nd}{vv kv vk vi:V}{ts:List Nd}{inner:List Bi}(e:Ext h0 n0 h n)(c5:Cl h n b5 (cB x vv kv) 35)(hv:dV h n vv x.vars){s:List Int}(l:fh h n .i64 kv s)(u:nQ h n vk (parts ts))(y:Cl h n m [vi] 111)(A:fL h n vi inner)(rt:Rt ts)(m1:1<=M)(sz:ts.length*M<=90000)(o:Bn x)(hp:∀k∈parts ts,PC f N M k inner)
 (B:∀v h' n',Ext h0 n0 h' n'->TG h' n0 n' v (cM x ((parts ts).map λk=>put F f k inner))->Q v h' n'):
 WC C RD [(k5,.p b5 0),(k8,vk),(k9,.p m 0)] h n (fq [.t k4] Q):=by
 have jZ:=Am rt.pos;have eB:=rt.bd.jM (ts.length - 1) (by have:=rt.pos;omega);obtain⟨hs,gI,D,E⟩:=u;have G:=(LQ (g:=λk=>put F f k inner) rt m1 sz o λk I=>De (hp k I)).2;have J:(List.range (parts ts).length).map (λi=>put F f ((parts ts).getD i []) inner)=(parts ts).map λk=>put F f k inner:=by
  apply qg (by simp);intro j h1 h2;have hj:j<(parts ts).length:=by simpa using h1
  simp only[List.getElem_map,List.getElem_range,dY,aX hj,Option.getD_some]
 have L:kv.one=true:=κ.one l;have O:bz n (.a (cB x vv kv))=true:=by simp[bz,gG,cB,st,κ.below hv (ξ _),κ.below l (ξ _)]
 have P:dK (.a (cB x vv kv)) (.a (cB x vv kv))=true:=by simp[dK,lf,cB,st,gJ,iR,κ.dL hv,κ.dL l,qn,xE,dP]
 have l5:∀{H:Hf} {n':K},Ext h n H n'->bc H true 5 (.p b5 0)=some (.a (cB x vv kv)):=λex=>bP (c5.ext ex).2 (kC rfl);refine eT<|aO U (l5 (Ext.refl _ _)) O P<|aI U<|adu U U<|ch U U<|UG (show C 121=some (.go f193) from d.f121) (of:=λi=>put F f ((parts ts).getD i []) inner) D (by omega) (λi w h2 R Q' hi c b q=>?_) <| λv2 h2 R b l2=>ch U U<|alB d G (by rw[←J];exact l2 h2 λ_ _ _=>rfl) (κ.ext hv b) L (by have:=o.2.2.1;omega) <| λS T W X tg=>aI U<|df (⟨⟨al (by simp[Nat.testBit]),cT (l5 (Ext.refl _ _)) (l5 b),trivial⟩,trivial⟩) ?_
 ·have r:i<hs.length:=by omega
  rw[KB r]at c;injection c with c;subst c;have tm:=(E i r hi).ext b;have Y:(parts ts).getD i []=(parts ts)[i]:=by rw[dY,aX hi];rfl
  simp only[Y]at q;refine μ.go d.f122 U ?_;refine ε<|γ U<|δ ?_;refine ε<|γ U<|ν U ((y.ext b).ld U _)<|ah U U<|ih tm (A.ext b) (hp _ (bL hi)) <| λZ h4 n4 e4 tg4=>γ U<|δ (aj ⟨_,rfl,q Z h4 n4 e4 tg4⟩)
 ·have z:=e.1;have z2:=b.1;exact aj ⟨_,rfl,B S T W ((e.trans b).trans X) (tg.low (by omega))⟩
end
section
variable {C:Nat->Option aE}{Q:V->Hf->K->Prop}
def amt(a:Cd C){F f N M:Nat}(hF:2000000<=F)(ih:Df C 53 F f){h0 h:Hf}{n0 n b5 A lo hi:K}{x:Nd}{t vl vv kv vk:V}{ts:List Nd}{l:List Bi}(ht:bK h0 n0 t ts)(hl:fL h0 n0 vl l)(p:PC (f+1) N M ts l)(e:Ext h0 n0 h n)(c5:Cl h n b5 (cB x vv kv) 35)(o1:n0.num<=b5.num)(hv:dV h0 n0 vv x.vars)(LR:fh h0 n0 .i64 kv x.kids)
 (kk:Wh h lo hi vk (parts ts))(q1:b5.num<lo.num)(q2:hi.num<=A.num)(q3:b5.num<A.num)(W:Cl h n A [vl] 111)(X:ts[ts.length - 1]'(by have:=p.rt.pos;omega)=x)(kh:¬ x.op=3)(bj:x.op=17\/x.op=18)
 (hQ:∀v h' n',Ext h0 n0 h' n'->TG h' n0 n' v (put F (f+1) ts l)->Q v h' n'):
 WC C Rz [(k0,t),(k1,vl),(k5,.p b5 0),(k8,vk),(k9,.p A 0)] h n (sq C RD (fq [.t k4] Q)):=by
 have Hv:=p.rt.pos;have Y:x∈ts:=by rw[←X];exact bL _
 obtain⟨v1,Z,v3⟩:=p.root Y;have ll:=p.ll;have nb:=p.nb;obtain⟨ms0,nu,oR,CU⟩:=id hl;have J:=p.rel;refine ε<|γ U<|ah U U<|Zi a (ht.ext e) p.rt.bd p.rt.pos p.rt.ord <| λvf h1 n1 e1 L hvf=>bN <| λh2 O iw a2 e2=>aR U U a2 (mB (κ.cells L) (κ.one L) U) <| λP a3 b3=>δ ?_;have b3:bA n1 h2 P:=b3;have x3:Ext h1 n1 P O:=e2.Ξ b3 (ξ _);have y3:=e1.trans x3;have cf:Cl P O n1 [vf] 32:=⟨by omega,a3⟩;have if3:=dV.ext L x3;have z3:=y3.1;have q7:=a.f115;refine ε<|γ U<|ah U U<|UL a (oR.ext (e.trans y3)) (by omega) <| λv4 h4 n4 e4 o4 p4=>rD U U<|ah U U<|al9 a (p:=λb=>!fM b.1 ts) (ξ _) (e.trans y3) nu e4 o4 p4 CU (by omega) (λy m h' n' Q' hy tm ey hq=>?_) <| λv5 h5 n5 e5 o5=>γ U<|δ ?_
 ·have aZ:aB [st y.1,m]=true:=by simp only[aB,tm.one];rfl
  refine μ.go a.f115 U ?_;refine ε<|eL U U aZ <| λR u jh a6 o=>γ U<|δ ?_;refine ε<|ν U ((cf.ext (ey.trans o)).ld U _)<|χ U<|ν U (cH a6 rfl _)<|ah U U<|uI a ((dV.ext if3 ey).ext o) (LK p.rt) <| λG n7 e7=>cz U<|γ U<|δ (aj ⟨_,rfl,hq G n7 (o.trans e7)⟩)
 have amu:(l.filter λb=>!(!fM b.1 ts))=cK ts l:=by unfold cK;congr 1;funext b;simp
 rw[amu]at o5;have S:=y3.trans e5;have z5:=S.1;obtain⟨ms5,hm5,YJ,NW,N8⟩:=id o5;have c95:=W.ext S;refine ε<|γ U<|ah U U<|UL a YJ (by omega) <| λB R u o o6 p6=>aR U U ((c95.ext o).2) (mB o6.sl.cells o6.sl.one U) <| λG a7 b7=>δ ?_;have b7:bA A R G:=b7;have z6:=o.1;have zb:=W.1;have H:=S.trans o;have y7:Ext h n R u:=H;have c57:Cl G u b5 (cB x vv kv) 35:=(c5.ext H).Ξ b7 (by omega);have w7:Ext h0 n0 G u:=(e.trans H).Ξ b7 (by omega);refine ε<|χ U<|ν U (c57.ld U _)<|ah U U<|Lo a (dV.ext hv w7) (by omega) <| λw h8 q z I p8=>χ U<|aR U U ((c57.ext z).2) (FV I.sl.cells I.sl.one) <| λi T r=>δ ?_;have r:bA b5 h8 i:=r;have T:i b5=some (.c (cB x w kv) 35 0):=T;have z8:=z.1;have zb5:=c5.1;have amw:=I.lt;have amx:=o6.lt;have U3:=o5.lt;have iw:=iw;have w9:Ext h0 n0 i q:=(w7.trans z).Ξ r o1;have f5:Cl i q b5 (cB x w kv) 35:=⟨by omega,T⟩;have o8':Ow i q 37 2 w x.vars.length (fU x.vars):=I.cW (p8.imp id λg=>r _ (by omega)) (ξ _);have z25:=e5.1;have o6r:B=.ns\/n5.num<=B.blk.num/\B.blk.num<u.num:=by
  rcases p6 with g | g
  ·exact Or.inl g
  ·exact amx.imp id λk=>⟨g,k⟩
 have o8r:w=.ns\/u.num<=w.blk.num/\w.blk.num<q.num:=by
  rcases p8 with g | g
  ·exact Or.inl g
  ·exact amw.imp id λk=>⟨g,k⟩
 have QI:QS 39 h0 n0 i q b5 O n5 u q x kv v5 w B (cK ts l) (cK ts l) x.vars:=
  ⟨w9,f5,o5.cW (U3.imp id λg=>by rw[r _ (by omega),z.2 _ (by omega),b7 _ (by omega),o.2 _ g.2]) (by omega),U3.imp id And.right,o8',o8r,⟨ms5,hm5,o6.cW (o6r.imp id λg=>by rw[r _ (by omega),z.2 _ g.2,b7 _ (by omega)]) (by omega),λj hj=>Or.inl (N8 j hj)⟩,o6r.imp id Or.inl,o1,by omega,by omega,by omega,by omega,ξ _⟩
 have kk9:Wh i lo hi vk (parts ts):=kk.cW λb g1 g2=>by rw[r _ (by omega),z.2 _ (by omega),b7 _ (by omega),H.2 _ (by omega)]
 have f9:Cl i q A [B] 111:=(Cl.ext ⟨by omega,a7⟩ z).Ξ r (by omega);have DL:∀k∈parts ts,Rt k/\hY N k:=λk d=>⟨(p.part d).1,(p.part d).2.2.1⟩;have jZ:=Am p.rt.pos;have eB:=p.rt.bd.jM (ts.length - 1) (by omega);refine ε<|χ U<|ν U (f5.ld U _)<|aJ U o8'.sl<|γ U<|δ ?_;refine aA<|au (amj a (F:=F) (N:=N) q1 q2 (by omega) q3 (by omega) (by omega) v1 J.1 (λk d=>(DL k d).1) J.2.1 Z (λk d=>(DL k d).2) (by omega) (by omega) ?_ _ 0 B i q rfl (by omega) QI kk9 f9) (Θ.rf U);intro vi hh nn E D kkQ cQ s;refine dO s ?_;have hr:=yz (F:=F) (l:=cK ts l) (ks:=parts ts) (vs:=x.vars) J.2.1 Z (λk d=>(p.part d).2.2.1) x.vars.length;have lC:=Gk (F:=F) (l:=cK ts l) (ks:=parts ts) (vs:=x.vars) x.vars.length;have hB:Bn { x with vars:=(rn F (cK ts l) (parts ts) x.vars x.vars.length).1}:=⟨v3.1,v3.2.1,by show(rn _ _ _ _ _).1.length<_;omega,λv hv=>by have:=hr.1 v hv;omega⟩;have zz:=D.o6;refine U2 a (x:={ x with vars:=(rn F (cK ts l) (parts ts) x.vars x.vars.length).1}) ih D.e D.c5 D.vo.sl (fh.ext LR D.e) ((kkQ hh λ_ _ _=>rfl).ext ⟨by omega,λ_ _=>rfl⟩) cQ D.bi p.rt p.m1 p.sz hB (λk d=>p.y8 Y d) λv h' n' ex tg=>hQ v h' n' ex ?_;rw[put_eq Hv X,Γ kh,ab bj];exact tg
end
section
variable {C:Nat->Option aE}
def amA(a:Cd C){F f:Nat}(Z:2000000<=F)(ih:Df C 53 F f):Df C 53 F (f+1):=by
 intro h n t vl ts l N M Q ht hl p y;have z:=p.rt.pos;have hlen:=p.rt.bd.len;have ll:=p.ll;obtain⟨x,o⟩:∃x,ts[ts.length - 1]'(by omega)=x:=⟨_,rfl⟩;have lH:x∈ts:=by rw[←o];exact bL _
 obtain⟨v1,v2,v3⟩:=p.root lH;obtain⟨m,tm⟩:=id ht;refine μ.go a.f53 U ?_;refine ε<|γ U<|δ ?_;refine ε<|γ U<|ah U U<|w90 a tm (by omega) z λh1 n1 vv kv S _ hv e=>?_;rw[o]at hv e ⊢;have aZ:=nO x (κ.one hv) (κ.one e);refine bN <| λh2 T iw a2 e2=>aR U U a2 (bS rfl rfl aZ) <| λE a3 b3=>δ ?_;have b3:bA n1 h2 E:=b3;have x3:Ext h1 n1 E T:=e2.Ξ b3 (ξ _);have y3:=S.trans x3;have c5:Cl E T n1 (cB x vv kv) 35:=⟨by omega,a3⟩;have z1:=S.1;by_cases r:x.op=3
 ·refine φ<|ε<|χ U<|ν U (c5.ld U _)<|dD U U<|δ ?_;refine ax U (by simpa using r) ?_;refine φ<|ε<|γ U<|χ U<|ν U (c5.ld U _)<|ah U U<|Zo a (hl.ext y3) (by omega) <| λs mm G i u H=>γ U<|bU U U<|bU U U<|bN <| λI A pC J K=>aR U U J (bS (l:=[.s 0 0,.ns]) (cs:=[st s,mm]) U U (by simp only[aB,H.one];rfl)) <| λd L b6=>γ U<|δ ?_;have b6:bA i I d:=b6;have j:Ext G i d A:=K.Ξ b6 (ξ _);have c:=(y3.trans u).trans j;have V:=c.1;have w:=put_eq (F:=F) (f:=f) (l:=l) z o;rw[ab r]at w;refine ε<|γ U<|δ ?_;cases hf:eD x.name l with
  | none=>
   rw[hf]at w;refine az U U<|ay ?_;refine ε<|γ U<|ah U U<|F9 a (ht.ext c) p.rt.bd <| λv mo O P R tg=>γ U<|δ (aj ⟨_,rfl,y v O P (c.trans R) (by rw[w];exact tg.tg V)⟩)
  | some b=>
   rw[hf]at w H;obtain⟨q,h1q,h2q⟩:=uS hf;have qM:Bd b:=by rw[←h2q];exact(p.LP q h1q).bd
   refine ax U U ?_;refine ε<|χ U<|ν U (cH L rfl _)<|ah U U<|F9 a (ts:=b) (bK.ext H j) qM <| λv mo O P R tg=>γ U<|δ (aj ⟨_,rfl,y v O P (c.trans R) (by rw[w];exact tg.tg V)⟩)
 refine φ<|ε<|χ U<|ν U (c5.ld U _)<|dD U U<|δ ?_;refine az U (by simpa using r)<|ay ?_;refine ε<|γ U<|ah U U<|alZ a (ht.ext y3) p.rt.bd z p.rt.ord <| λvk G i u kk=>γ U<|δ ?_;have W:=(hl.sl).choose_spec;refine ε<|γ U<|bN <| λI A pC J K=>aR U U J (mB W.cells W.one U) <| λd L b6=>δ ?_;have b6:bA i I d:=b6;have j:Ext G i d A:=K.Ξ b6 (ξ _);have c:=(y3.trans u).trans j;have z4:=u.1;have X:Cl d A i [vl] 111:=⟨by omega,L⟩;have B:=c5.ext (u.trans j);have Y:=kk.cW (h':=d) λb _ g=>j.2 b g;by_cases D:x.op=17\/x.op=18
 ·refine φ<|ε<|χ U<|ν U (B.ld U _)<|ah U U<|uE a.f101<|δ ?_;refine ax U (by simpa using D) ?_;exact au (amt a Z ih ht hl p c B (by omega) hv e Y (by omega) (ξ _) (by omega) X o r D y) (Θ.rf U)
 ·refine φ<|ε<|χ U<|ν U (B.ld U _)<|ah U U<|uE a.f101<|δ ?_;refine az U (by simpa using D)<|ay ?_;refine au (U2 a (x:=x) ih c B (dV.ext hv c) (fh.ext e c) ((Y d λ_ _ _=>rfl).ext ⟨by omega,λ_ _=>rfl⟩) X (hl.ext c) p.rt p.m1 p.sz v3 (λk e=>p.jM e) λv h' n' ex tg=>y v h' n' ex ?_) (Θ.rf U);rw[put_eq z o,Γ r,Γ D];exact tg
def w53(a:Cd C){F:Nat}(b:2000000<=F):∀f,Df C 53 F f
 | 0=>by intro ht hl p c;have:=p.len;have:=p.rt.pos;omega
 | f+1=>amA a b (w53 a b f)
end
section
variable {C:Nat->Option aE}
section
variable {h0 hS:Hf}{n0 nS b5 lb li lv nL b9:K}{x:Nd}{kv vl vv vi t xi:V}{ts:List Nd}{l inner:List Bi}{vs:List (S×S)}{N:Nat}
end
end
section
variable {C:Nat->Option aE}
section
variable {h0:Hf}{n0 b5 lb li lv nL:K}{x:Nd}{kv vl vv t:V}{ts:List Nd}{l:List Bi}{vars:List (S×S)}{N F:Nat}
end
end
section
variable {C:Nat->Option aE}{Q:V->Hf->K->Prop}
end
section
variable {C:Nat->Option aE}{h:Hf}{n:K}{Q:V->Hf->K->Prop}
def pK(u:List Nd):Int:=fm [if decide ((2000:Int)<(u.length:Nat))=true then 4 else 0,if decide (60<rN u)=true then 24 else 0]
def bE(l:List Bi)(x:Bi)(i:Nat):Int:=fm [if (!iH x.1)=true then 6 else 0,if (eD x.1 (l.take i)).isSome=true then 7 else 0,cX x.2]
def mT(l:List Bi):List Bi->Nat->Int
 | [],_=>0
 | x::r,i=>if bE l x i≠0 then bE l x i else mT l r (i+1)
def sE(F:Nat)(ts:List Nd)(l:List Bi):Int:=
 let q:=fm [cX ts,if decide ((100:Int)<(l.length:Nat))=true then 5 else 0]
 if q≠0 then q else if mT l l 0≠0 then mT l l 0 else if 2000<Ef ts l then 4 else pK (put F ts.length ts l)
def sV(F:Nat)(ts:List Nd)(l:List Bi):List Nd:=if sE F ts l=0 then put F ts.length ts l else []
def U4:∀{l:List Bi} {ms:List V} (hm:ms.length=l.length) (i:Nat),(jS l ms).take (i*2)=jS (l.take i) (ms.take i)
 | [],[],_,i=>by simp[jS]
 | [],_::_,hm,_=>by simp at hm
 | x::l,[],hm,_=>by simp at hm
 | x::l,m::ms,hm,0=>by simp[jS]
 | x::l,m::ms,hm,i+1=>by rw[show(i+1)*2=i*2+2 by omega];simp only[jS,j7,U4 (show ms.length=l.length by simpa using hm) i]
def amD{v:V}{l:List Bi}{ms:List V}(hm:ms.length=l.length)(ht:∀i (hi:i<l.length),bK h n (ms[i]'(by omega)) l[i].2){i:Nat}(hi:i<=l.length)(a:κ h n 2 v (i - 0) (((jS l ms).drop (0*2)).take ((i - 0)*2))):fL h n v (l.take i):=by
 rw[Nat.zero_mul,ig,mY,U4 hm]at a;have hl:(l.take i).length=i:=by simp;omega
 refine⟨ms.take i,by simp;omega,by rw[hl];exact a,λj hj=>?_⟩;rw[List.getElem_take,List.getElem_take];exact ht j (by omega)
def w52(a:Cd C){t:V}{ts:List Nd}(ht:bK h n t ts)(hb:Bd ts)(c:Bl ts)(e:∀h' n',Ext h n h' n'->bK h' n' t ts->Q (.u [if pK ts=0 then t else .ns,.i .i64 (pK ts)]) h' n'):μ C (.f 52 [] []) [t] h n Q:=by
 refine μ.go a.f52 U ?_;obtain⟨cs,hs⟩:=ht.sl;have hlen:=hb.len;refine ε<|γ U<|γ U<|δ ?_;refine φ<|ε<|γ U<|aJ U hs<|dH U U<|ah U U<|nI a.f37<|γ U<|ah U U<|Td a ht (by omega) c.1 hb.jM (λj hj k d=>⟨(c.2 j hj k d).2,(c.2 j hj k d).1⟩) <| λh1 n1 g=>dH U U<|ah U U<|nI a.f37<|jJ U <| λh2 m q o p=>ah U U<|A3 a.f36 (l:=[if decide ((2000:Int)<(ts.length:Nat))=true then 4 else 0,if decide (60<rN ts)=true then 24 else 0]) (κ.whole (len:=2) (by omega) o rfl) (by simp)<|γ U<|δ ?_
 have x:=g.trans p;have b:=e h2 m x (ht.ext x);refine ε<|γ U<|fJ U U<|δ ?_;by_cases h0:pK ts=0
 ·refine az U (by show(!decide (pK ts=0))=false;simp[h0])<|ay ?_;rw[ab h0,h0]at b;refine ε<|γ U<|γ U<|γ U<|δ (aj ⟨_,rfl,b⟩)
 ·refine ax U (by show(!decide (pK ts=0))=true;simp[h0]) ?_;rw[Γ h0]at b;refine ε<|γ U<|γ U<|γ U<|δ (aj ⟨_,rfl,b⟩)
end
section
variable {C:Nat->Option aE}{h:Hf}{n:K}{Q:V->Hf->K->Prop}
def LU{l r:List Bi}{x:Bi}{i:Nat}:mT l (x::r) i=if bE l x i≠0 then bE l x i else mT l r (i+1):=rfl
def amE(f:Cd C){t vl:V}{l:List Bi}(M:Gl h n)(hl:fL h n vl l)(iF:l.length<100000)(hb:∀b∈l,Bd b.2/\b.1.length<10000000){Q1:Ex->Env->Hf->K->Prop}
 (hR:∀h' n' E',Ext h n h' n'->mT l l 0≠0->Θ [(k4,.ns),(k5,.i .i64 (mT l l 0))] E'->Q1 .ret E' h' n')
 (N:∀h' n' E',Ext h n h' n'->mT l l 0=0->Θ [(k0,t),(k1,vl)] E'->Q1 .normal E' h' n'):
 ∀(r i:Nat) (h':Hf) (n':K),l.length - i=r->i<=l.length->Ext h n h' n'->mT l l 0=mT l (l.drop i) i->WC C ad1 [(k0,t),(k1,vl),(Yb,vl),(Nn,iN l.length),(Yc,iN i)] h' n' (blk 0 Q1):=by
 intro r
 induction r with
 | zero=>
  intro i h' n' O hi e hs;have:i=l.length:=by omega
  subst this;rw[oS]at hs;refine aF ?_;refine ε<|aH U U<|δ ?_;exact φ<|az U (by simp)<|bG (N h' n' _ e hs (Θ.rf U))
 | succ r ih=>
  intro i h' n' O hi e hs;have o:i<l.length:=by omega
  have y:=hl.ext e;obtain⟨ms,hm,z,P⟩:=id y;obtain⟨m,R,tm⟩:=y.at o;obtain⟨S,iE⟩:=hb _ (bL o);rw[gL o]at hs;have T:aB [st l[i].1,m]=true:=by simp only[aB,tm.one];rfl
  refine aF ?_;refine ε<|aH U U<|δ ?_;refine φ<|ax U (by simp;omega)<|ay ?_;refine φ<|aA<|ε<|γ U<|aV U U z o<|ν U R<|bN <| λh2 A iw W X=>γ U<|aR U U W (bS (l:=[.s 0 0,.ns]) U U T) <| λv Y b3=>δ ?_;have b3:bA n' h2 v:=b3;have w:Ext h' n' v A:=X.Ξ b3 (ξ _);have B:Cl v A n' [st l[i].1,m] 39:=⟨by omega,Y⟩;refine eT<|aI U<|aI U<|Jb U (z.ext w) U U (by omega) (show i<=_ by omega) <| λv4 Z l4=>cI U<|aO U (B.ld U _) U (iR _ _)<|ch U U<|Zo f (amD hm (λj hj=>(P j hj).ext w) hi Z) (by simp;omega) <| λs mm h5 D E im=>aI U<|zW U U<|zW U U<|tf <| λh6 q jh a6 e6=>fK U U a6 (bS (l:=[.s 0 0,.ns]) (cs:=[st s,mm]) U U (by simp only[aB,im.one];rfl)) <| λk a7 b7=>aI U<|df (by simp[AG,nE,pS,Nat.testBit]) ?_;have b7:bA D h6 k:=b7;have F:Ext h5 D k q:=e6.Ξ b7 (ξ _);have G:Cl k q n' [st l[i].1,m] 39:=(B.ext E).ext F;have u:=(w.trans E).trans F;have z7:=u.1;have I:=tm.ext u;obtain⟨ts7,J⟩:=I.sl;have l80:∀{H:Hf},Ag q k H->bc H false 1 (.p n' (0+0))=some (st l[i].1):=λag=>(G.ext (ag.x (ξ _))).ld U _;have c:∀{H:Hf},Ag q k H->bc H false 1 (.p n' (0+1))=some m:=λag=>(G.ext (ag.x (ξ _))).ld U _;refine eT<|cI U<|aO U (l80 (Ag.refl _ _)) U (iR _ _)<|ch U U<|YF f iE <| λh8 n8 a=>xX U<|ch U U<|nI f.f37<|aI U<|ch U U<|nI f.f37<|cI U<|aO U (c a.ag) (J.below a.1) (κ.dL J)<|ch U U<|w8 f S ((M.ext e).ext (u.trans a)) (I.ext a) <| λh9 g d=>th U <| λjK dQ Ub sr hX=>ch U U<|A3 f.f36 (l:=[if (!iH l[i].1)=true then 6 else 0,if (eD l[i].1 (l.take i)).isSome=true then 7 else 0,cX l[i].2]) (κ.whole (len:=3) (by omega) sr rfl) (by simp)<|aI U<|df (⟨⟨al (by simp[Nat.testBit]),al (by simp[Nat.testBit]),cT (c (a.ag.hp g none (eF a.1 d.1))) (c (a.ag.hp g none (eF a.1 d.1))),cT (c (a.ag.hp g none (eF a.1 d.1))) (c (a.ag.hp g none (eF a.1 d.1))),cT (c ((Ag.refl _ _).hp g none (eF a.1 d.1))) (c (a.ag.hp g none (eF a.1 d.1))),trivial⟩,⟨al (by simp[Nat.testBit]),al (by simp[Nat.testBit]),al (by simp[Nat.testBit]),al (by simp[Nat.testBit]),al (by simp[Nat.testBit]),trivial⟩,trivial⟩) ?_
  have L:=((e.trans u).trans (a.trans d)).trans hX;refine ε<|γ U<|fJ U U<|δ ?_;have hx:bE l l[i] i=fm [if (!iH l[i].1)=true then 6 else 0,if (eD l[i].1 (l.take i)).isSome=true then 7 else 0,cX l[i].2]:=rfl
  rw[←hx];rw[LU]at hs;by_cases h0:bE l l[i] i=0
  ·rw[Γ (by simp[h0])]at hs;refine az U (by simp[h0])<|ay ?_;refine aP<|cj U U ⟨by omega,by omega⟩<|γ U<|δ ?_;exact au (ih (i+1) _ _ (by omega) (by omega) L hs) (Θ.rf U)
  ·rw[ab h0]at hs;refine ax U (by simp[h0]) ?_;refine ε<|γ U<|γ U<|γ U<|δ (aj (hR _ _ _ L (by rw[hs];exact h0) ⟨rfl,by rw[hs];rfl,trivial⟩))
def w12(c:Cd C){t vl:V}{ts:List Nd}{l:List Bi}{F N M:Nat}(B:2000000<=F)(q:Gl h n)(ht:bK h n t ts)(hl:fL h n vl l)(D:l.length<100000)(r:Bd ts)(hb:∀b∈l,Bd b.2/\b.1.length<10000000)(hp:cX ts=0->mT l l 0=0->PC ts.length N M ts l)
 (d:∀v h' n',Ext h n h' n'->bK h' n' v (sV F ts l)->Q (.u [v,.i .i64 (sE F ts l)]) h' n'):μ C (.f 12 [] []) [t,vl] h n Q:=by
 obtain⟨cs,hs⟩:=hl.sl;obtain⟨e,he⟩:∃e,fm [cX ts,if decide ((100:Int)<(l.length:Nat))=true then 5 else 0]=e:=⟨_,rfl⟩
 refine μ.go c.f12 U ?_;refine ε<|γ U<|γ U<|δ ?_;refine φ<|ε<|γ U<|ah U U<|w8 c r q ht <| λh1 n1 w=>γ U<|aJ U (hs.ext w)<|dH U U<|ah U U<|nI c.f37<|jJ U <| λh2 x W E G=>ah U U<|A3 c.f36 (l:=[cX ts,if decide ((100:Int)<(l.length:Nat))=true then 5 else 0]) (κ.whole (len:=2) (by omega) E rfl) (by simp)<|γ U<|δ ?_
 have x2:=w.trans G;rw[he];refine ε<|γ U<|fJ U U<|δ ?_;by_cases h0:e=0
 case neg=>
  refine ax U (by simp[h0]) ?_;have a:sE F ts l=e:=by unfold sE;rw[he];simp[h0]
  refine ε<|γ U<|γ U<|γ U<|δ (aj ⟨_,rfl,by have:=d .ns h2 x x2 (by unfold sV;rw[a,Γ h0];exact bK.nil _ _);rw[a]at this;exact this⟩)
 refine az U (by simp[h0])<|ay ?_;subst h0;have hf:cX ts=0:=by
  by_cases g:cX ts=0
  ·exact g
  ·rw[fm,Γ g]at he;exact absurd he g
 refine φ<|ε<|γ U<|aJ U (hs.ext x2)<|γ U<|δ ?_;refine aA<|au (amE c (t:=t) (q.ext x2) (hl.ext x2) D hb ?_ ?_ _ 0 h2 x rfl (by omega) (Ext.refl _ _) U) (Θ.rf U)
 ·intro y z E3 k A s;have a:sE F ts l=mT l l 0:=by unfold sE;rw[he];simp[A]
  refine⟨_,by show kA [.t k4,.t k5] _ _=_;simp only[kA,qm,sW,s.1,s.2.1];rfl,?_⟩;have:=d .ns y z (x2.trans k) (by unfold sV;rw[a,Γ A];exact bK.nil _ _);rw[a]at this;exact this
 intro y z E3 k m s;refine dO s ?_;have p:=hp hf m;have y3:=x2.trans k;refine φ<|ε<|γ U<|γ U<|ah U U<|w51 c (ht.ext y3) (hl.ext y3) r p.rt.pos p.rt.ord (λb H=>(hb b H).1.len) (by omega) <| λI J L=>dH U U<|δ ?_;have j:=y3.trans L;by_cases o:2000<Ef ts l
 ·refine ax U (by simpa using o) ?_;have a:sE F ts l=4:=by unfold sE;rw[he];simp[m,o]
  refine ε<|γ U<|γ U<|δ (aj ⟨_,rfl,by have:=d .ns I J j (by unfold sV;rw[a,Γ (by decide)];exact bK.nil _ _);rw[a]at this;exact this⟩)
 refine az U (by simp;omega)<|ay ?_;have a:sE F ts l=pK (put F ts.length ts l):=by unfold sE;rw[he];simp[m,o]
 have ps:=De (F:=F) p;refine ε<|γ U<|γ U<|ah U U<|w53 c B ts.length (ht.ext j) (hl.ext j) p <| λv X Y O tg=>ah U U<|w52 c tg.t ps.1 ps.2.1 <| λP R S T=>bU U U<|bU U U<|γ U<|γ U<|δ (aj ⟨_,rfl,?_⟩);have:=d (if pK (put F ts.length ts l)=0 then v else .ns) P R ((j.trans O).trans S) (by
  unfold sV;rw[a];split
  ·exact T
  ·exact bK.nil _ _)
 rw[a]at this;exact this
end
section
variable {C:Nat->Option aE}{h:Hf}{n:K}{Q:V->Hf->K->Prop}
end
section
variable {C:Nat->Option aE}{h:Hf}{n:K}{Q:V->Hf->K->Prop}
def sJ(b:Bi):Bool:=je b.2&&!decide (210<b.1.length)
def w7(k:Cd C){v:V}{l:List Bi}(hl:fL h n v l)(hlen:l.length<10000000)(hb:∀b∈l,A6 b.2)(o:∀h' n',Ext h n h' n'->Q (.b (l.all sJ&&decide (l.length<=4))) h' n'):μ C (.f 7 [] []) [v] h n Q:=by
 refine μ.go k.f7 U ?_;obtain⟨cs,hs⟩:=hl.sl;refine ε<|γ U<|δ ?_;refine φ<|ε<|γ U<|aJ U hs<|γ U<|δ ?_;have loop:∀(r i:Nat) (h':Hf) (n':K),l.length - i=r->i<=l.length->Ext h n h' n'->l.all sJ=(l.drop i).all sJ->WC C Rm [(k0,v),(k5,v),(k6,iN l.length),(k7,iN i)] h' n' (blk 0 (sq C Ro (fq [.t k2] Q))):=by
  intro r
  induction r with
  | zero=>
   intro i h' n' q hi e a;have:i=l.length:=by omega
   subst this;rw[oS]at a;refine aF ?_;refine ε<|aH U U<|δ ?_;refine φ<|az U (by simp)<|bG ?_;refine ε<|γ U<|aJ U (hs.ext e)<|po U U<|γ U<|δ (aj ⟨_,rfl,?_⟩);have:=o h' n' e;rw[a]at this;have u:decide (((l.length:Nat):Int)<=4)=decide (l.length<=4):=decide_eq_decide.2 (by omega);rw[u];exact this
  | succ r ih=>
   intro i h' n' q hi e a;have g:i<l.length:=by omega
   obtain⟨m,hm,tm⟩:=(hl.ext e).at g;rw[gL g,List.all_cons]at a;have x:aB [st l[i].1,m]=true:=by simp only[aB,tm.one];rfl
   refine aF ?_;refine ε<|aH U U<|δ ?_;refine φ<|ax U (by simp;omega)<|ay ?_;refine φ<|aA<|ε<|aV U U (hs.ext e) g<|ν U hm<|bN <| λh2 d D y z=>aR U U y (bS (l:=[.s 0 0,.ns]) U U x) <| λc A b3=>δ ?_;have b3:bA n' h2 c:=b3;have j:Ext h' n' c d:=z.Ξ b3 (ξ _);have c4:Cl c d n' [st l[i].1,m] 39:=⟨by omega,A⟩;have p:=hb _ (bL g);have bad:sJ l[i]=false->∀{E},WC C adT E c d (blk 1 (sq C adU (sq C (.loop Jk) (blk 0 (sq C Ro (fq [.t k2] Q)))))):=by intro B E;rw[B,vO]at a;refine ε<|γ U<|δ (aj ⟨_,rfl,by have:=o c d (e.trans j);rw[a]at this;exact this⟩)
   by_cases h1:je l[i].2=true
   case neg=>
    refine ε<|χ U<|ν U (c4.ld U _)<|ah U U<|w6 k (tm.ext j) p<|cz U<|γ U<|θ U (by simp[h1])<|θ U (by simp[h1])<|θ U (by simp[h1])<|θ U (by simp[h1])<|bh U (by simp[h1]) U<|δ ?_;exact ax U U (bad (by simp[sJ,h1]))
   refine ε<|χ U<|ν U (c4.ld U _)<|ah U U<|w6 k (tm.ext j) p<|cz U<|γ U<|ζ U (by simp[h1])<|χ U<|ζ U (by simp[h1])<|ν U (c4.ld U _)<|ζ U (by simp[h1])<|du U<|ζ U (by simp[h1])<|dH U U<|aW U (by simp[h1]) U<|δ ?_;by_cases h2:210<l[i].1.length
   ·exact ax U (by simp;omega) (bad (by simp[sJ,h2]))
   refine az U (by simp;omega)<|ay ?_;rw[show sJ l[i]=true by simp[sJ,h1,h2],tP]at a;refine aP<|cj U U ⟨by omega,by omega⟩<|γ U<|δ ?_;exact au (ih (i+1) c d (by omega) (by omega) (e.trans j) a) (Θ.rf U)
 exact aA<|au (loop _ 0 h n rfl (by omega) (Ext.refl _ _) U) (Θ.rf U)
def Bm(ei:Nat)(h0:Hf)(n0:K)(h:Hf)(n:K)(v:V)(l:List Bi)(ms:List V):Prop:=
 ∃hm:ms.length=l.length,Gr h0 n0 h n ei 2 v l.length (jS l ms)/\∀j (h2:j<l.length),v≠.ns/\bK h v.blk (ms[j]'(by omega)) l[j].2
section
variable {ei:Nat}{h0 h4 h5:Hf}{n0 n4 n5:K}{v v5 w:V}{l:List Bi}{ms:List V}{t:List Nd}{s:S}
def Bm.nil(e:Ext h0 n0 h n):Bm ei h0 n0 h n .ns [] []:=⟨rfl,Gr.ns e,λj h1=>by simp at h1⟩
def Bm.bi(a:Bm ei h0 n0 h n v l ms):fL h n v l:=by obtain⟨h1,h2,b⟩:=a;refine⟨ms,h1,h2.sl,λi c=>?_⟩;have:=b i c;exact this.2.ext (n':=n) ⟨h2.lt.elim (λe=>absurd e this.1) fC,λ_ _=>rfl⟩
def Bm.app(a:Bm ei h0 n0 h n v l ms)(x:Ext h n h4 n4)(ht:bK h5 n4 w t)(o5:dB h5 ei 2 v5 (l.length+1) (jS l ms++[st s,w]))(c:v5.blk=n4)(f:n5.num=n4.num+1)(d:∀b:K,b.num<n4.num->(v=.ns\/b.num≠v.blk.num)->h5 b=h4 b):Bm ei h0 n0 h5 n5 v5 (l++[(s,t)]) (ms++[w]):=by
 obtain⟨h1,h2,g⟩:=a;have i:=(h2.on x).app o5 c f d;have m:v5≠.ns:=by intro e;have:=o5.nil e;omega
 refine⟨by simp[h1],by rw[jz,al4 h1];exact i,λj o=>⟨m,?_⟩⟩;by_cases hj:j<l.length
 ·rw[List.getElem_append_left (by omega),List.getElem_append_left hj];obtain⟨p,q⟩:=g j hj;have u:=h2.lt.resolve_left p;have:=x.1;refine q.ext ⟨by rw[c];omega,λk y=>?_⟩;rw[d k (by omega) (Or.inr (by omega)),x.2 k (by omega)]
 ·have r:j=l.length:=by simp at o;omega
  subst r;rw[List.getElem_append_right (by omega),List.getElem_append_right (by omega)];simp only[h1,kY,zf,c];exact ht
end
def w13(q:Cd C){v:V}{l:List Bi}(hl:fL h n v l)(hlen:l.length<1000000)(hb:∀b∈l,Bd b.2)(D:∀v' h' n',Ext h n h' n'->fL h' n' v' l->Q v' h' n'):μ C (.f 13 [] []) [v] h n Q:=by
 refine μ.go q.f13 U ?_;obtain⟨cs,hs⟩:=hl.sl;refine ε<|γ U<|δ ?_;refine ε<|γ U<|δ ?_;refine φ<|ε<|γ U<|aJ U hs<|γ U<|δ ?_;have loop:∀(r i:Nat) (w:V) (ms:List V) (h':Hf) (n':K),l.length - i=r->i<=l.length->Bm 39 h n h' n' w (l.take i) ms->WC C ad2 [(k3,w),(k6,v),(k7,iN l.length),(k8,iN i)] h' n' (blk 0 (sq C ad3 (fq [.t k2] Q))):=by
  intro r
  induction r with
  | zero=>
   intro i w ms h' n' E hi g;have:i=l.length:=by omega
   subst this;rw[fO]at g;refine aF ?_;refine ε<|aH U U<|δ ?_;refine φ<|az U (by simp)<|bG ?_;refine ε<|γ U<|γ U<|δ (aj ⟨_,rfl,D w h' n' g.2.1.ext g.bi⟩)
  | succ r ih=>
   intro i w ms h' n' E hi g;have e:i<l.length:=by omega
   have gr:=g.2.1;have Lv:(l.take i).length=i:=by simp;omega
   obtain⟨m,hm,tm⟩:=(hl.ext gr.ext).at e;have F:aB [st l[i].1,m]=true:=by simp only[aB,tm.one];rfl
   refine aF ?_;refine ε<|aH U U<|δ ?_;refine φ<|ax U (by simp;omega)<|ay ?_;refine φ<|aA<|ε<|aV U U (hs.ext gr.ext) e<|ν U hm<|bN <| λh2 k iw G I=>aR U U G (bS (l:=[.s 0 0,.ns]) U U F) <| λj J b3=>δ ?_;have b3:bA n' h2 j:=b3;have c:Ext h' n' j k:=I.Ξ b3 (ξ _);have c5:Cl j k n' [st l[i].1,m] 39:=⟨by omega,J⟩;have u:=tm.ext c;obtain⟨tcs,y⟩:=u.sl;have o:∀{H:Hf},Ag k j H->bc H false 1 (.p n' (0+0))=some (st l[i].1):=λag=>(c5.ext (ag.x (ξ _))).ld U _;refine rB<|aI U<|cI U<|aO U (o (Ag.refl _ _)) U (iR _ _)<|cI U<|aO U (c5.ld U _) (y.below (ξ _)) (κ.dL y)<|ch U U<|w9g q u (hb _ (bL e)) <| λL h4 n4 a tg=>tc (Tf rfl rfl rfl rfl tg.t.cells tg.t.one)<|th (UI rfl (by simp only[aB,tg.t.one];rfl)) <| λh6 M jh N d=>adx U ((((gr.on c).on a).on d).own) U (κ.whole (len:=1) (z:=2) (by omega) N rfl) (by omega) (by omega) (by omega) (by omega) (by simp only[aB,tg.t.one];rfl) ((((gr.on c).on a).on d).lt) <| λO A P R T W B=>aI U<|df (⟨⟨al (by simp[Nat.testBit]),al (by simp[Nat.testBit]),trivial⟩,⟨al (by simp[Nat.testBit]),cT (o ((Ag.refl _ _).hp n4 none a.1)) (o (a.ag.hp n4 none a.1)),trivial⟩,trivial⟩) ?_;have X:=gr.lt;have z3:=c.1;have z4:=a.1;have Y:=d.1;have Z:=(TG.skip (h':=A) (n':=M) tg (λb pg gH=>(B b (by omega) (X.imp id λh=>by omega)).trans (d.2 b gH)) Y).t;have g7:=g.app ((c.trans a).trans d) (s:=l[i].1) Z R T W B;refine aP<|cj U U ⟨by omega,by omega⟩<|γ U<|δ ?_;refine au (ih (i+1) O (ms++[L]) A P (by omega) (by omega) ?_) (Θ.rf U);rw[gm e];exact g7
 exact aA<|au (loop _ 0 .ns [] h n rfl (by omega) (Bm.nil (Ext.refl _ _))) (Θ.rf U)
end
section
variable {C:Nat->Option aE}{h:Hf}{n:K}{Q:V->Hf->K->Prop}
def U5{ts:List Nd}(h:je ts=true):hY 200 ts:=by simp only[je,aD,kX]at h;intro x a;have:=h.2 x a;simp only[nW,CI,aD,qd,gT,cC,kX]at this;obtain⟨g1,_,_,_,c,b,d⟩:=this;refine⟨by omega,λv hv=>?_⟩;have:=b v hv;simp only[tz,aD,qd,gT]at this;omega
def U6{ts:List Nd}(h:je ts=true)(h2:ts.length<=2000):ts.length<=120:=by
 simp only[je,aD]at h;by_cases a:120<ts.length
 ·have:ts.length=2001:=by simpa[a]using h.1
  omega
 ·omega
def yA{a:Int}{l:List Int}(h:fm (a::l)=0):a=0/\fm l=0:=by
 unfold fm at h;by_cases g:a=0
 ·rw[ab g]at h;exact⟨g,h⟩
 ·rw[Γ g]at h;exact absurd h g
def amK{l:List Bi}{x:Bi}{i:Nat}(h:bE l x i=0):cX x.2=0:=(yA (yA (yA h).2).2).1
def LV{l:List Bi}:∀{r:List Bi} {i:Nat},mT l r i=0->∀x∈r,cX x.2=0
 | [],_,_,x,a=>by cases a
 | y::r,i,h,x,a=>by
  rw[LU]at h;by_cases g:bE l y i=0
  ·rw[Γ (by simp[g])]at h;rcases cD.1 a with rfl | a
   ·exact amK g
   ·exact LV h x a
  ·rw[ab g]at h;exact absurd h g
section
variable {ts:List Nd}{l:List Bi}
def Gp(h:je ts=true)(hl:l.all sJ=true)(e:l.length<=4)(hf:cX ts=0)(hb:mT l l 0=0):PC ts.length 200 120 ts l:=by
 obtain⟨r,l2,_⟩:=yw (uR h) hf;have hlen:=U6 h l2;rw[kX]at hl;have hs:∀b∈l,je b.2=true:=λb a=>by have:=hl b a;simp only[sJ,aD]at this;exact this.1
 have c:∀b∈l,Rt b.2/\b.2.length<=2000:=λb a=>by obtain⟨g1,d,_⟩:=yw (uR (hs b a)) (LV hb b a);exact⟨g1,d⟩
 exact⟨r,ξ _,U5 h,λb a=>(c b a).1,λb a=>U5 (hs b a),λb a=>U6 (hs b a) (c b a).2,by omega,by omega,by omega,by omega⟩
end
end
end Go.Ev.X
