/- A part of the proof. -/
import Derived.Test.YtpdbepbhlalldaaGreatDoorW
set_option linter.all false
namespace Go.Ev.X
open Go Go.Ev
section
def Ow.bO{h h':Hf}{n n':K}{e z len:Nat}{v:V}{cs:List V}(a:Ow h n e z v len cs)(x:v=.ns\/h' v.blk=h v.blk)(c:n.num<=n'.num):Ow h' n' e z v len cs:=by
 rcases a with ⟨a,b⟩ | ⟨b,h1,h2,h3,d⟩
 ·exact Or.inl ⟨a.ext x,b.imp id λg=>by omega⟩
 ·exact Or.inr ⟨b,h1,h2,h3,d.eD x c⟩
def Ow.lt{h:Hf}{n:K}{e z len:Nat}{v:V}{cs:List V}(a:Ow h n e z v len cs):v=.ns\/v.blk.num<n.num:=a.sl.cP
def Tz(name sort:S):List V:=[.i .i64 3,st sort,st name,.ns,.ns]
def En(h0:Hf)(n0:K)(h:Hf)(nL:K)(vi m:V)(b:Bi):Prop:=aZ h0 n0 m b.2\/∃b' name sort,m=.sl b' 0 1 1/\nL.num<=b'.num/\b'.num<vi.blk.num/\h b'=some (.c (Tz name sort) 87 0)/\b.2=nh name sort
structure QS(ei:Nat)(h0:Hf)(n0:K)(h:Hf)(n b5 lb li lv nL:K)(x:Nd)(kv vl vv vi:V)(l inner:List Bi)(vs:List (S×S)):Prop where
 e:Ext h0 n0 h n
 c5:Cl h n b5 (bW x vv kv) 87
 bl:tB h0 n0 h n lb vl l
 KZ:vl=.ns\/vl.blk.num<li.num
 vo:Ow h n 64 2 vv vs.length (fW vs)
 vb:vv=.ns\/lv.num<=vv.blk.num/\vv.blk.num<nL.num
 io:∃ms:List V,∃hm:ms.length=inner.length,Ow h n ei 2 vi inner.length (iE inner ms)/\∀j (hj:j<inner.length),En h0 n0 h nL vi (ms[j]'(by omega)) inner[j]
 ib:vi=.ns\/(li.num<=vi.blk.num/\vi.blk.num<lv.num)\/(nL.num<=vi.blk.num/\vi.blk.num<n.num)
 o1:n0.num<=b5.num
 o2:b5.num<lb.num
 o3:lb.num<=li.num
 o4:li.num<=lv.num
 o5:lv.num<=nL.num
 o6:nL.num<=n.num
section
variable {ei:Nat}{h0 h h' h1 h2 h3:Hf}{n0 n n' n1 n2 n3 b5 lb li lv nL:K}{x:Nd}{kv vl vv vi Xe:V}{l inner:List Bi}{vs:List (S×S)}
def QS.ext(a:QS ei h0 n0 h n b5 lb li lv nL x kv vl vv vi l inner vs)(e:Ext h n h' n'):QS ei h0 n0 h' n' b5 lb li lv nL x kv vl vv vi l inner vs:=by
 have d:=e.1;have r:=a.o6;have s:=a.o5;have f:=a.ib;obtain⟨ms,hm,c,i⟩:=a.io;refine⟨a.e.trans e,a.c5.ext e,a.bl.bO (a.bl.lt.imp id λg=>e.2 _ g.2) d,a.KZ,a.vo.ext e,a.vb,⟨ms,hm,c.ext e,λj hj=>(i j hj).imp id ?_⟩,f.imp id λg=>g.imp id λg=>⟨g.1,by omega⟩,a.o1,a.o2,a.o3,a.o4,a.o5,by omega⟩;rintro⟨b',nm,k,g1,m,b,o,p⟩;have q:=c.lt;refine⟨b',nm,k,g1,m,b,?_,p⟩;rw[e.2 b' (by
  rcases q with g | g
  ·rw[g]at b;exact absurd b (by show ¬ b'.num<K.num .h;have:=K.pU b';simp[K.num];omega)
  ·omega)]
 exact o
def QS.TA(a:QS ei h0 n0 h n b5 lb li lv nL x kv vl vv vi l inner vs){i:Nat}(hi:i<vs.length){p:S×S}(b:bm vv.blk h h')(c:h' vv.blk=some (.c (fW (vs.set i p)) 64 0)):QS ei h0 n0 h' n b5 lb li lv nL x kv vl vv vi l inner (vs.set i p):=by
 have o1:=a.o1;have o2:=a.o2;have o3:=a.o3;have o4:=a.o4;have o5:=a.o5;have o6:=a.o6;have f:vv≠.ns:=by
  intro e;rcases a.vo with ⟨g,_⟩ | ⟨_,g,d,_⟩
  ·have:=g.nil e;omega
  ·omega
 obtain⟨v1,w⟩:=a.vb.resolve_left f;have k:=a.ib;have y:=a.bl.lt;have m:=a.KZ;obtain⟨ms,hm,o,q⟩:=a.io;have r:vv=.su vv.blk 0 vs.length 2:=by
  rcases a.vo with ⟨g,_⟩ | ⟨_,g,d,_⟩
  ·exact(g.su.resolve_left f).1
  ·omega
 refine⟨a.e.ab b (by omega),a.c5.ab b (by omega),a.bl.bO (m.imp id λg=>b _ (by omega)) (φ _),a.KZ,?_,a.vb,⟨ms,hm,o.bO (k.imp id λg=>b _ (by omega)) (φ _),λj hj=>(q j hj).imp id ?_⟩,a.ib,a.o1,a.o2,a.o3,a.o4,a.o5,a.o6⟩
 ·refine Or.inl ⟨⟨by rw[HO,gZ],Or.inr ⟨by rw[gZ];omega,vv.blk,by rw[gZ];exact r,c⟩⟩,Or.inr (by omega)⟩
 ·rintro⟨b',nm,s,g1,d,t,u,v⟩;exact⟨b',nm,s,g1,d,t,by rw[b b' (by omega)];exact u,v⟩
def QS.app(a:QS ei h0 n0 h n b5 lb li lv nL x kv vl vv vi l inner vs){nm i m:S}{b':K}(q:Ext h n h1 n1)(hb:n.num<=b'.num)(v:b'.num<n1.num)(w:h1 b'=some (.c (Tz m i) 87 0))(o:Ext h1 n1 h2 n2)
 (ms:List V)(hm:ms.length=inner.length)(y:∀j (hj:j<inner.length),En h0 n0 h nL vi (ms[j]'(by omega)) inner[j])(o3:ea h3 ei 2 Xe (inner.length+1) (iE inner ms++[st nm,.sl b' 0 1 1]))(d:Xe.blk=n2)(I:n3.num=n2.num+1)(r:∀b:K,b.num<n2.num->(vi=.ns\/b.num≠vi.blk.num)->h3 b=h2 b):
 QS ei h0 n0 h3 n3 b5 lb li lv nL x kv vl vv Xe l (inner++[(nm,nh m i)]) vs:=by
 have o1:=a.o1;have o2:=a.o2;have z:=a.o3;have o4:=a.o4;have o5:=a.o5;have o6:=a.o6;have J:=q.1;have L:=o.1;have p:=a.ib;have s:=a.KZ;have t:=a.vb;have M:=a.e.1;have A:=q.trans o;have key:∀b:K,b.num<n.num->(vi=.ns\/b.num≠vi.blk.num)->h3 b=h b:=λb h1 h2=>by rw[r b (by omega) h2,A.2 b h1]
 have f:∀b:K,b.num<li.num\/(lv.num<=b.num/\b.num<nL.num)->h3 b=h b:=λb g=>key b (by omega) (p.imp id λk=>by omega);refine⟨⟨by omega,λk B=>by rw[f k (by omega),a.e.2 k B]⟩,⟨by have:=a.c5.1;omega,by rw[f _ (by omega)];exact a.c5.2⟩,a.bl.bO (s.imp id λg=>f _ (by omega)) (by omega),s,a.vo.bO (t.imp id λg=>f _ (by omega)) (by omega),t,⟨ms++[.sl b' 0 1 1],by simp[hm],?_,λj hj=>?_⟩,Or.inr (Or.inr ⟨by rw[d];omega,by rw[d];omega⟩),o1,o2,z,o4,o5,by omega⟩
 ·rw[KQ hm,gp];exact Or.inl ⟨o3,Or.inr (by rw[d];omega)⟩
 ·by_cases u:j<inner.length
  ·rw[List.getElem_append_left u,List.getElem_append_left (by omega)];refine(y j u).imp id ?_;rintro⟨b,m1,C,g1,D,E,F,G⟩;have H:vi≠.ns:=λe=>by rw[e]at E;have:=K.pU b;have:K.num (V.ns).blk=1:=rfl;omega
   have N:=p.resolve_left H;exact⟨b,m1,C,g1,D,by rw[d];omega,by rw[key b (by omega) (Or.inr (by omega))];exact F,G⟩
  ·have:j=inner.length:=by simp at hj;omega
   subst this;rw[List.getElem_append_right (by omega),List.getElem_append_right (by omega)];simp only[hm,lL,nz];refine Or.inr ⟨b',m,i,rfl,by omega,by rw[d];omega,?_,rfl⟩;rw[r b' (by omega) (p.imp id λk=>by omega),o.2 b' v];exact w
def QS.bi(a:QS ei h0 n0 h n b5 lb li lv nL x kv vl vv vi l inner vs):dZ h n vi inner:=by
 obtain⟨ms,hm,c,d⟩:=a.io;refine⟨ms,hm,c.sl,λj hj=>?_⟩;rcases d j hj with g | ⟨b,m1,p,g1,q,f,k,m⟩
 ·exact g.ext a.e
 ·rw[g1,m];have o:vi≠.ns:=λe=>by rw[e]at f;have:=K.pU b;have:K.num (V.ns).blk=1:=rfl;omega
  have:=c.lt.resolve_left o;exact⟨[(.ns,.ns)],rfl,κ.whole (len:=1) (z:=5) (by omega) k rfl,λi hi=>by
   have:i=0:=by simp[nh]at hi;exact hi
   subst this;exact⟨κ.ns _ _ _,κ.ns _ _ _⟩⟩
def QS.ab(a:QS ei h0 n0 h n b5 lb li lv nL x kv vl vv vi l inner vs){b:K}(c:bm b h h')(g1:n0.num<=b.num)(d:b.num≠b5.num)(f:b.num<lb.num):QS ei h0 n0 h' n b5 lb li lv nL x kv vl vv vi l inner vs:=by have o3:=a.o3;have o4:=a.o4;have o5:=a.o5;have i:=a.ib;have k:=a.bl.lt;have m:=a.vb;obtain⟨ms,hm,o,p⟩:=a.io;refine⟨a.e.ab c g1,a.c5.ab c (by omega),a.bl.bO (k.imp id λg=>c _ (by omega)) (φ _),a.KZ,a.vo.bO (m.imp id λg=>c _ (by omega)) (φ _),a.vb,⟨ms,hm,o.bO (i.imp id λg=>c _ (by omega)) (φ _),λj hj=>(p j hj).imp id ?_⟩,a.ib,a.o1,a.o2,a.o3,a.o4,a.o5,a.o6⟩;rintro⟨b',nm,q,g1,d,f,r,s⟩;exact⟨b',nm,q,g1,d,f,by rw[c b' (by omega)];exact r,s⟩
end
end
end Go.Ev.X
namespace Go.Ev.X
open Go Go.Ev
attribute [local irreducible] WC WO WD SO ν
section
variable {C:Nat->Option aI}
def Wh.lt{h h':Hf}{lo hi n:K}{w:V}{x:List (List Nd)}(a:Wh h lo hi w x)(s:∀b:K,lo.num<=b.num->b.num<hi.num->h' b=h b)(e:hi.num<=n.num):iS h' n w x:=(a h' s).ext ⟨e,λ_ _=>rfl⟩
section
variable {h0 hS:Hf}{n0 nS b5 lb li lv nL b9 b12 cN lo hi:K}{x:Nd}{kv vl vv vi vk Xg Xh oZ:V}{l inner:List Bi}{vs:List (S×S)}{ks:List (List Nd)}{N:Nat}
def akL(g:fh C)(a:QS 38 h0 n0 hS nS b5 lb li lv nL x kv vl vv vi l inner vs)(w:Wh hS lo hi vk ks)(R:hi.num<=nS.num)(hb:nS.num<=cN.num)(o:l.length<1000000)(z:ks.length<1000000)(t:vs.length<1000000)(q:∀b∈l,Rt b.2)(A:∀k∈ks,Rt k)(nl:∀b∈l,jX N b.2)(B:∀v∈vs,v.1.length<=N)(D:∀k∈ks,jX N k)(T:N<1000000){Q1:Ex->Env->Hf->K->Prop}{s0:S}
 (F:∀h n E',Ext hS nS h n->Cl h n cN [st s0] 9->ρ [(k1,vl),(k5,.p b5 0),(k8,vk),(k9,.p b9 0),(qh,oZ),(rS,.p b12 0),(uY,.p cN 0),(LY,vv),(LZ,Xg),(L3,Xh)] E'->Q1 .normal E' h n):
 ∀(f:Nat) (s:S) (h:Hf) (n:K),Ext hS nS h n->Cl h n cN [st s] 9->fresh l vs ks f s=s0->N+1<s.length+f->s.length<=N+1->WC C Qk [(k1,vl),(k5,.p b5 0),(k8,vk),(k9,.p b9 0),(qh,oZ),(rS,.p b12 0),(uY,.p cN 0),(LY,vv),(LZ,Xg),(L3,Xh)] h n (blk 2 Q1):=by
 intro f
 induction f with
 | zero=>
  intro s h n e c hf h1 h2;omega
 | succ f ih=>
  intro s h n e c hf h1 h2;have a':=a.ext e;have r:=a'.bl.bi a'.e;have G:iS h n vk ks:=w.lt (λb _ h2=>e.2 b (by omega)) (by have:=e.1;omega);have again:∀{h' n' E},taken l vs ks s=true->Ext h n h' n'->ρ [(k1,vl),(k5,.p b5 0),(k8,vk),(k9,.p b9 0),(qh,oZ),(rS,.p b12 0),(uY,.p cN 0),(LY,vv),(LZ,Xg),(L3,Xh)] E->WC C ac0 E h' n' (sq C (.exit 2) (blk 3 (sq C (.loop Ql) (blk 2 Q1)))):=by
   intro h' n' E ht ex sE;refine bS sE ?_;refine ε<|ξ U ((c.ext ex).ld U _)<|D9 (b:=[39]) U U (by simp only[dy,jy];omega)<|aH U U ((c.ext ex).2) (mR rfl rfl rfl) <| λH I b4=>δ ?_;refine aJ<|χ (ih (s++[39]) H n' ((e.trans ex).ab b4 hb) ⟨(c.ext ex).1,I⟩ ?_ ?_ ?_) (ρ.rf U)
   ·rw[←hf,fresh,ao ht]
   ·simp;omega
   ·by_cases hs:s.length<=N
    ·simp;omega
    ·rw[KY nl B D (by omega)]at ht;cases ht
  refine ax<|aj ?_;by_cases hm:nj s l=true
  ·refine θ<|ε<|γ U<|ξ U (c.ld U _)<|ψ U U<|Fo g r o q <| λh1 n1 d=>γ U<|μ U (hm)<|μ U (hm)<|μ U (hm)<|μ U (hm)<|aU U (hm) U<|γ U<|μ U U<|μ U U<|μ U U<|aU U U U<|δ ?_;exact ah U U (again (by simp[taken,hm]) d (ρ.rf U))
  simp only[nG]at hm;by_cases hv:s∈vs.map Prod.fst
  ·refine θ<|ε<|γ U<|ξ U (c.ld U _)<|ψ U U<|Fo g r o q <| λh1 n1 d=>γ U<|ζ U (hm)<|σ U<|ζ U (hm)<|ξ U ((a'.c5.ext d).ld U _)<|ζ U (hm)<|ξ U ((c.ext d).ld U _)<|ζ U (hm)<|ψ U U<|sU g.toCd ((a'.ext d).vo.sl) t <| λh2 J i=>aL U (hm) U<|γ U<|μ U (by simp[hv])<|μ U (by simp[hv])<|μ U (by simp[hv])<|aU U (by simp[hv]) U<|δ ?_;exact ah U U (again (by simp[taken,hv]) (d.trans i) (ρ.rf U))
  refine θ<|ε<|γ U<|ξ U (c.ld U _)<|ψ U U<|Fo g r o q <| λh1 n1 d=>γ U<|ζ U (hm)<|σ U<|ζ U (hm)<|ξ U ((a'.c5.ext d).ld U _)<|ζ U (hm)<|ξ U ((c.ext d).ld U _)<|ζ U (hm)<|ψ U U<|sU g.toCd ((a'.ext d).vo.sl) t <| λh2 J i=>aL U (hm) U<|γ U<|ζ U (by simp[hv])<|γ U<|ζ U (by simp[hv])<|rC U U<|ζ U (by simp[hv])<|ψ U U<|akz g (p:=lZ s) (G.ext (d.trans i)) z (λy m h' n' Q' L tm M O=>akA g tm (A y L) (c.ext ((d.trans i).trans M)) O) <| λP Q u=>aL U (by simp[hv]) U<|δ ?_;by_cases j:rL s ks=true
  ·exact ah U j (again (by simp[taken,j]) ((d.trans i).trans u) (ρ.rf U))
  ·simp only[nG]at j;refine ae U j<|Ω<|aJ ?_;have x3:=(d.trans i).trans u;have:s0=s:=by rw[←hf,fresh,Θ (by simp[taken,hm,hv,j])]
   subst this;exact F P Q _ (e.trans x3) (c.ext x3) (ρ.rf U)
end
end
end Go.Ev.X
namespace Go.Ev.X
open Go Go.Ev
section
section
variable {l:List Bi}{ks:List (List Nd)}{vs:List (S×S)}{N F:Nat}
def xd:∀i,(rn F l ks vs i).1.length=vs.length
 | 0=>rfl
 | i+1=>by
  have:=xd i;unfold rn Gv;split
  ·split
   ·simp[this]
   ·exact this
  ·exact this
def Co{j:Nat}:∀(i:Nat),i<=j->(rn F l ks vs i).1[j]?=vs[j]?
 | 0,_=>rfl
 | i+1,h=>by
  have:=Co i (show i<=j by omega);unfold rn Gv;split
  ·split
   ·rw[List.getElem?_set_ne (by omega)];exact this
   ·exact this
  ·exact this
def K0{i:Nat}(hi:i<vs.length):rn F l ks vs (i+1)=if nj vs[i].1 l=true then ((rn F l ks vs i).1.set i (fresh l (rn F l ks vs i).1 ks F (vs[i].1++[39]),vs[i].2),(rn F l ks vs i).2++[(vs[i].1,nh (fresh l (rn F l ks vs i).1 ks F (vs[i].1++[39])) vs[i].2)]) else rn F l ks vs i:=by have h:=Co (F:=F) (l:=l) (ks:=ks) (vs:=vs) (j:=i) i (φ _);rw[df hi]at h;rw[rn,Gv,h]
def xf(h1:∀b∈l,jX N b.2)(h2:∀v∈vs,v.1.length<=N)(d:∀k∈ks,jX N k):∀i,(∀v∈(rn F l ks vs i).1,v.1.length<=N+i)/\∀b∈(rn F l ks vs i).2,b∈l\/∃a nm c,b=(a,nh nm c)/\nm.length<=N+i
 | 0=>⟨h2,λb hb=>Or.inl hb⟩
 | i+1=>by
  have ih:=xf h1 h2 d i;have hf:∀s,s.length<=N+i+1->(fresh l (rn F l ks vs i).1 ks F s).length<=N+i+1:=λs hs=>
   Tw (N:=N+i) (λb hb=>(h1 b hb).mono (by omega)) ih.1 (λk f=>(d k f).mono (by omega)) _ s hs
  have bO:(∀v∈(rn F l ks vs i).1,v.1.length<=N+(i+1))/\∀b∈(rn F l ks vs i).2,b∈l\/∃a nm c,b=(a,nh nm c)/\nm.length<=N+(i+1):=
   ⟨λv hv=>by have:=ih.1 v hv;omega,λb hb=>(ih.2 b hb).imp id λ⟨a,nm,c,g1,m⟩=>⟨a,nm,c,g1,by omega⟩⟩
  by_cases hi:i<vs.length
  ·rw[K0 hi];split
   ·have e:=hf (vs[i].1++[39]) (by have:=h2 _ (bK hi);simp;omega);refine⟨λv hv=>?_,λb hb=>?_⟩
    ·rcases List.mem_or_eq_of_mem_set hv with g | g
     ·exact bO.1 v g
     ·rw[g];exact e
    ·rcases gQ.1 hb with g | g
     ·exact bO.2 b g
     ·rw[iZ]at g;exact Or.inr ⟨_,_,_,g,e⟩
   ·exact bO
  ·have:rn F l ks vs (i+1)=rn F l ks vs i:=by
    have h:=Co (F:=F) (l:=l) (ks:=ks) (vs:=vs) (j:=i) i (φ _);rw[show vs[i]?=none from qY (by omega)]at h;rw[rn,Gv,h]
   rw[this];exact bO
def Fu:∀i,(rn F l ks vs i).2.length<=l.length+i
 | 0=>φ _
 | i+1=>by
  have:=Fu i;unfold rn Gv;split
  ·split
   ·simp;omega
   ·omega
  ·omega
end
def akM{nm a:S}(h:nm.length<1000000):Rt (nh nm a):=by
 have hi:∀i,i<(nh nm a).length->i=0:=λi hi=>by simp[nh]at hi;exact hi
 refine⟨Bd.of (by simp[nh]) λy b=>?_,by simp[nh],λj hj=>?_⟩
 ·simp only[nh,iZ]at b;subst b;exact⟨by simp,h,by simp,by simp⟩
 ·have:=hi j hj;subst this;rfl
def akN{nm b:S}{N:Nat}(h:nm.length<=N):jX N (nh nm b):=by intro y a;simp only[nh,iZ]at a;subst a;exact⟨h,by simp⟩
def K1{a:S}:∀{l:List (S×S)} {i:Nat} (h:i<l.length),cL [st a] (fW l) (i*2)=some (fW (l.set i (a,l[i].2)))
 | [],i,h=>by simp at h
 | p::l,0,_=>by obtain⟨x,y⟩:=p;simp[fW,cL,over]
 | p::l,i+1,h=>by obtain⟨x,y⟩:=p;rw[show(i+1)*2=i*2+1+1 by omega];simp only[fW,cL,K1 (show i<l.length by simpa using h),ra,pb]
end
end Go.Ev.X
namespace Go.Ev.X
open Go Go.Ev
attribute [local irreducible] WC WO WD SO ν
section
variable {C:Nat->Option aI}
def Wh.bO{h h':Hf}{lo hi:K}{w:V}{x:List (List Nd)}(a:Wh h lo hi w x)(s:∀b:K,lo.num<=b.num->b.num<hi.num->h' b=h b):Wh h' lo hi w x:=λg c=>a g λb b1 b2=>(c b b1 b2).trans (s b b1 b2)
section
variable {h0:Hf}{n0 b5 lb li lv nL b9 lo hi:K}{x:Nd}{kv vl vv vk:V}{l:List Bi}{vars:List (S×S)}{ks:List (List Nd)}{N F:Nat}
def akO(E:fh C)(h59:b5.num<lo.num)(G:hi.num<=b9.num)(h9b:b9.num<lb.num)(h95:b5.num<b9.num)(gH:l.length<1000000)(bP:ks.length<1000000)(mP:vars.length<1000)(rl:∀b∈l,Rt b.2)(rk:∀k∈ks,Rt k)(nl:∀b∈l,jX N b.2)(nv:∀v∈vars,v.1.length<=N)(nk:∀k∈ks,jX N k)(hN:N<990000)(hF:N+1002<F){Q1:Ex->Env->Hf->K->Prop}
 (hQ:∀vi h n E',QS 38 h0 n0 h n b5 lb li lv nL x kv vl vv vi l (rn F l ks vars vars.length).2 (rn F l ks vars vars.length).1->Wh h lo hi vk ks->Cl h n b9 [vi] 97->ρ [(k5,.p b5 0),(k8,vk),(k9,.p b9 0)] E'->Q1 .normal E' h n):
 ∀(r i:Nat) (vi:V) (h:Hf) (n:K),vars.length - i=r->i<=vars.length->QS 38 h0 n0 h n b5 lb li lv nL x kv vl vv vi l (rn F l ks vars i).2 (rn F l ks vars i).1->Wh h lo hi vk ks->Cl h n b9 [vi] 97->WC C Qj [(k1,vl),(k5,.p b5 0),(k8,vk),(k9,.p b9 0),(LY,vv),(LZ,iN vars.length),(L3,iN i)] h n (blk 0 Q1):=by
 intro r
 induction r with
 | zero=>
  intro i vi h n I fw a w J;have:i=vars.length:=by omega
  subst this;refine ax ?_;refine ε<|ay U U<|δ ?_;exact θ<|ae U (by simp)<|aJ (hQ vi h n _ a w J (ρ.rf U))
 | succ r ih=>
  intro i vi h n I fw a w J;have L:i<vars.length:=by omega
  have gD:(rn F l ks vars i).1.length=vars.length:=xd i;have M:=xf (F:=F) (l:=l) (ks:=ks) (vs:=vars) nl nv nk i;have y:=K0 (F:=F) (l:=l) (ks:=ks) L;have A:=Co (F:=F) (l:=l) (ks:=ks) (vs:=vars) (j:=i) i (φ _);have hnv:=nv _ (bK L);obtain⟨vs,inner,Cp⟩:∃vs inner,rn F l ks vars i=(vs,inner):=⟨_,_,rfl⟩;rw[Cp]at a gD M y A;simp only at a gD M y A;have zk:vs[i]'(by omega)=vars[i]:=by rw[df (by omega),df L]at A;injection A
  have o1:=a.o1;have o2:=a.o2;have o3:=a.o3;have o4:=a.o4;have o5:=a.o5;have o6:=a.o6;have hB:du h n vv vs:=a.vo.sl;have K2:=hB.jP (i:=i) (by omega);rw[zk]at K2;refine ax ?_;refine ε<|ay U U<|δ ?_;refine θ<|ah U (by simp;omega)<|Ω ?_;refine θ<|aj<|ε<|γ U<|aB U U hB (by omega)<|ξ U K2<|bA <| λh1 n1 cA a1 e1=>γ U<|aH U U a1 (cj (l:=[.s 0 0,.s 0 0]) U U U) <| λh2 a2 b2=>δ ?_;have b2:bm n h1 h2:=b2;have x2:Ext h n h2 n1:=e1.ab b2 (φ _);have mw:Cl h2 n1 n [st vars[i].1,st vars[i].2] 64:=⟨by omega,a2⟩;have aa:=a.ext x2;refine DP ?_;refine θ<|ε<|γ U<|σ U<|ξ U (mw.ld U _)<|ψ U U<|Fo E (aa.bl.bi aa.e) gH rl <| λO o P=>bZ U<|δ ?_;have x3:=x2.trans P;have c9':=J.ext x3;have kk':=w.bO (h':=O) λb _ h2=>x3.2 b (by omega);by_cases hm:nj vars[i].1 l=true
  case neg=>
   simp only[nG]at hm;refine ah U (by rw[hm];rfl)<|aJ ?_;refine aA<|aX U U ⟨by omega,by omega⟩<|γ U<|δ ?_;have e0:rn F l ks vars (i+1)=(vs,inner):=by rw[y,Θ (by rw[hm];decide)]
   refine χ (ih (i+1) vi O o (by omega) (by omega) ?_ kk' c9') (ρ.rf U);rw[e0];exact a.ext x3
  refine ae U (by rw[hm];rfl)<|Ω ?_;refine ε<|σ U<|ξ U ((mw.ext P).ld U _)<|D9 (b:=[39]) U U (by simp only[dy,jy];omega)<|bA <| λh5 Q oi a5 e5=>aH U U a5 (mR rfl rfl rfl) <| λB a6 b6=>δ ?_;have b6:bm o h5 B:=b6;have x6:Ext O o B Q:=e5.ab b6 (φ _);have x36:=x3.trans x6;have a3:=a.ext x3;have jv:Cl B Q o [st (vars[i].1++[39])] 9:=⟨by omega,a6⟩;refine θ<|Ω ?_;generalize xr:fresh l vs ks F (vars[i].1++[39])=nm at*;have z3:=x3.1;refine θ<|aj<|χ (akL E (s0:=nm) (N:=N+i) a3 kk' (by omega) (φ _) gH bP (by omega) rl rk (λb hb=>(nl b hb).mono (by omega)) M.1 (λk hk=>(nk k hk).mono (by omega)) (by omega) ?_ F (vars[i].1++[39]) B Q x6 jv xr (by simp;omega) (by simp;omega)) (ρ.rf U);intro h7 q E7 t d13 s;refine bS s ?_;have f:=a3.ext t;have d12:=mw.ext (P.trans t);have d9:=c9'.ext t;have z7:=t.1;have aG:vv≠.ns:=by
   intro e;rcases f.vo with ⟨g,_⟩ | ⟨_,g,R,_⟩
   ·have:=g.nil e;omega
   ·omega
  obtain⟨v1,v2⟩:=f.vb.resolve_left aG;have rM:vv=.su vv.blk 0 vs.length 2/\h7 vv.blk=some (.c (fW vs) 64 0):=by
   rcases f.vo with ⟨g,_⟩ | ⟨_,g,R,_⟩
   ·exact g.su.resolve_left aG
   ·omega
  have tq:vv.off=0:=by rw[rM.1];rfl
  have kN:ju (fW vs) 0 (vv.off+i*2+0) 1 (st nm)=some (fW (vs.set i (nm,vars[i].2))):=by rw[tq];refine mR rfl rfl ?_;rw[eW,hJ,K1 (by omega),zk]
  refine ε<|σ U<|ξ U (f.c5.ld U _)<|γ U<|ξ U (d13.ld U _)<|aB U U f.vo.sl (by omega)<|σ U<|aH U U rM.2 kN <| λm a8 b8=>δ ?_;have T:=f.TA (i:=i) (p:=(nm,vars[i].2)) (by omega) b8 a8;obtain⟨ms,xD,W,tz⟩:=T.io;have jT:inner.length<=l.length+i:=by have:=Fu (F:=F) (l:=l) (ks:=ks) (vs:=vars) i;rw[Cp]at this;exact this
  have f12:Cl m q n [st vars[i].1,st vars[i].2] 64:=d12.ab b8 (by omega);have f13:Cl m q o [st nm] 9:=d13.ab b8 (by omega);have f9:Cl m q b9 [vi] 97:=d9.ab b8 (by omega);have oO:=T.ib;have l12:∀{H:Hf},Ag q m H->bj H false 1 (.p n (0+0))=some (st vars[i].1):=λag=>(f12.ext (ag.x (φ _))).ld U _;have l9:∀{H:Hf},Ag q m H->bj H false 1 (.p b9 0)=some vi:=λag=>(f9.ext (ag.x (φ _))).ld U _;refine nO<|aC U (f9.ld U _) (κ.below W.sl (φ _)) (κ.cH W.sl)<|bG U<|aC U (f12.ld U _) U (fg _ _)<|aC U (f13.ld U _) U (fg _ _)<|bG U<|aC U (f12.ld U _) U (fg _ _)<|aY U U<|w27 E.f27 <| λb' G D d je dY I=>qi U<|lP U <| λgP dD E8 oE u=>Sf U (W.ext (d.trans u)) U (κ.whole (len:=1) (z:=2) (by omega) oE rfl) (by omega) (by omega) (by omega) (by omega) U <| λv11 X oM Y Gt E0 Z=>eT U U ((Z b9 (by have:=d.1;omega) (oO.imp id λg=>by omega)).trans ((u.2 b9 (by have:=d.1;omega)).trans ((d.2 b9 (by omega)).trans f9.2))) (mR Y.sl.cells Y.sl.one U) <| λgk xB b12=>bU (⟨⟨ω (by simp[Nat.testBit]),ω (by simp[Nat.testBit]),ω (by simp[Nat.testBit]),trivial⟩,⟨ω (by simp[Nat.testBit]),ω (by simp[Nat.testBit]),ω (by simp[Nat.testBit]),trivial⟩,⟨ω (by simp[Nat.testBit]),ω (by simp[Nat.testBit]),bH (l12 ((Ag.refl _ _).hp D none d.1)) (l12 (d.ag.hp D none d.1)),trivial⟩,⟨ω (by simp[Nat.testBit]),ω (by simp[Nat.testBit]),bH (l9 ((Ag.refl _ _).hp D none d.1)) (l9 (d.ag.hp D none d.1)),trivial⟩,trivial⟩) ?_;have z9:=d.1;have z10:=u.1;have Dj:ea X 38 2 v11 (inner.length+1) (iE inner ms++[st vars[i].1,.sl b' 0 1 1]):=by
   rcases Y with ⟨g,_⟩ | ⟨_,_,R,_⟩
   ·exact g
   ·omega
  have wv:=T.app (nm:=vars[i].1) d je dY I u ms xD tz Dj Gt E0 Z;have b12:bm b9 X gk:=b12;have Jz:=wv.ab (h':=gk) b12 (by omega) (by omega) h9b;refine aA<|aX U U ⟨by omega,by omega⟩<|γ U<|δ ?_;refine χ (ih (i+1) v11 gk oM (by omega) (by omega) ?_ ?_ ⟨by omega,xB⟩) (ρ.rf U)
  ·rw[y,ao hm];exact Jz
  ·refine w.bO λb g1 R=>?_;rw[b12 b (by omega),show X b=gP b from Z b (by omega) (oO.imp id λg=>by omega),show gP b=G b from u.2 b (by omega),show G b=m b from d.2 b (by omega),b8 b (by omega),t.2 b (by omega),x3.2 b (by omega)]
end
end
end Go.Ev.X
namespace Go.Ev.X
open Go Go.Ev
section
def xE(t:List Nd):Prop:=0<t.length/\∀i (hi:i<t.length),∀k∈t[i].kids,0<=k/\k<(i:Int)
def Rt.lts{t:List Nd}(r:Rt t):xE t:=⟨r.pos,λi hi k a=>by have:=oI (r.ord i hi) k (by rw[jj hi];exact a);exact⟨this.2,this.1⟩⟩
def xE.kr{t:List Nd}(r:xE t):KR t:=⟨r.1,λx a k b=>by obtain⟨i,hi,rfl⟩:=iX a;have:=r.2 i hi k b;omega⟩
def TB:∀(l:List (List Nd)) (s:List Nd×List Int),(∀i (hi:i<s.1.length),∀k∈s.1[i].kids,0<=k/\k<(i:Int))->(∀t∈l,xE t)->∀i (hi:i<(l.foldl kE s).1.length),∀k∈(l.foldl kE s).1[i].kids,0<=k/\k<(i:Int)
 | [],s,h,_=>h
 | t::l,s,h,g=>by
  refine TB l (kE s t) (λi hi k a=>?_) λu b=>g u (by simp[b]);simp only[kE]at hi a;by_cases hs:i<s.1.length
  ·rw[List.getElem_append_left hs]at a;exact h i hs k a
  ·rw[List.getElem_append_right (by omega),List.getElem_map]at a;obtain⟨k',c,rfl⟩:=List.mem_map.1 (show k∈(t[i - s.1.length]'(by simp at hi;omega)).kids.map _ from a);have:=(g t (by simp)).2 (i - s.1.length) (by simp at hi;omega) k' c;omega
def akT{x:Nd}{l:List (List Nd)}(h:∀t∈l,xE t):xE (jr x l):=by
 have h1:=TB l ([],[]) (λi hi=>by simp at hi) h;have h2:=aka (x:=x) λt ht=>(h t ht).kr;have g:(l.foldl kE ([],[])).1.length=lens l:=(nc l).1;refine⟨by rw[uQ];omega,λi hi k a=>?_⟩;rw[uQ]at hi;by_cases b:i<(dG l).1.length
 ·have e:(jr x l)[i]'(by rw[uQ];exact hi)=(dG l).1[i]:=List.getElem_append_left b;rw[e]at a;exact h1 i b k a
 ·have j:i=lens l:=by have:(dG l).1.length=lens l:=(nc l).1;omega
  have c:=SX l ([],[]) (λy d=>by cases d) (λk a=>by cases a) (λt ht=>(h t ht).kr);have e:(jr x l)[i]'(by rw[uQ];exact hi)=wk x (dG l).2:=by unfold jr;rw[List.getElem_append_right (by omega)];simp only[List.getElem_singleton]
  rw[e]at a;have:=c.2 k a;omega
def TC:∀a b:List (List Nd),lens (a++b)=lens a+lens b
 | [],b=>by simp[lens]
 | t::a,b=>by simp only[pc,lens,TC a b];omega
def TF:∀a:List (List Nd),lens a.reverse=lens a
 | []=>rfl
 | t::a=>by rw[List.reverse_cons,TC,TF a];simp[lens];omega
def TH{ts:List Nd}:∀(ks:List Int) (next:Int),next<(ts.length:Int)->eh (fs ts) ks next=true->(lens (ks.map λk=>part ts k.toNat):Int)<=next\/(ks=[]/\next<0)
 | [],next,_,_=>by
  by_cases h:0<=next
  ·left;simpa[lens]using h
  ·right;exact⟨rfl,by omega⟩
 | k::ks,next,b,h=>by
  unfold eh at h;split at h
  ·cases h
  ·rename_i c;have d:0<=k:=by omega
   have e:k=next - 1:=by omega
   have j:=nW ts k.toNat;have a:=yI (ts:=ts) (i:=k.toNat) (by omega);left;rcases TH ks (fs ts k.toNat) (by omega) h with g | ⟨g,m⟩
   ·simp only[gB,lens,a];omega
   ·omega
def akU{ts:List Nd}(r:Rt ts):lens (parts ts)+1<=ts.length:=by have h0:=r.pos;have a:=r.ord (ts.length - 1) (by omega);unfold ord at a;have:=TH (fT ts (ts.length - 1)).reverse ((ts.length - 1:Nat):Int) (by omega) a;rw[List.map_reverse,TF]at this;unfold parts;omega
def TJ{M:Nat}{g:List Nd->List Nd}:∀{l:List (List Nd)},(∀t∈l,(g t).length<=t.length*M)->lens (l.map g)<=lens l*M
 | [],_=>by simp[lens]
 | t::l,h=>by have h1:=h t (by simp);have h2:=TJ (l:=l) λu a=>h u (by simp[a]);simp only[gB,lens,fM];omega
structure PC(f N M:Nat)(ts:List Nd)(l:List Bi):Prop where
 rt:Rt ts
 len:ts.length<=f
 nm:jX N ts
 K4:∀b∈l,Rt b.2
 bnm:∀b∈l,jX N b.2
 bl:∀b∈l,b.2.length<=M
 m1:1<=M
 sz:ts.length*M<=90000
 nb:N+1000*f<=900000
 ll:l.length+1000*f<=500000
section
variable {F f N M:Nat}{ts:List Nd}{l:List Bi}
def akW(h:jX N ts)(i:Nat):jX N (part ts i):=by intro y a;obtain⟨z,b,rfl⟩:=List.mem_map.1 a;exact h z (xK (qX b))
def PC.part(p:PC (f+1) N M ts l){k:List Nd}(a:k∈parts ts):Rt k/\k.length<=f/\jX N k/\k.length*M<=90000:=by obtain⟨j,hj,rfl⟩:=iX a;have h:=p.rt.parts hj;have h1:=p.len;refine⟨h.1,by omega,?_,dU (fJ M (eu h.2)) p.sz⟩;obtain⟨q,_,b⟩:=List.mem_map.1 a;rw[←b];exact akW p.nm _
def PC.gw(p:PC (f+1) N M ts l){k:List Nd}(a:k∈parts ts):PC f N M k l:=
 ⟨(p.part a).1,(p.part a).2.1,(p.part a).2.2.1,p.K4,p.bnm,p.bl,p.m1,(p.part a).2.2.2,by have:=p.nb;omega,by have:=p.ll;omega⟩
def PC.root(p:PC f N M ts l){x:Nd}(a:x∈ts):x.vars.length<1000/\(∀v∈x.vars,v.1.length<=N)/\Bn x:=⟨(p.rt.bd.bn x a).2.2.1,(p.nm x a).2,p.rt.bd.bn x a⟩
def PC.rel(p:PC f N M ts l):(∀b∈cZ ts l,Rt b.2)/\(∀b∈cZ ts l,jX N b.2)/\(∀b∈cZ ts l,b.2.length<=M)/\(cZ ts l).length<=l.length:=
 ⟨λb hb=>p.K4 b (List.mem_filter.1 hb).1,λb hb=>p.bnm b (List.mem_filter.1 hb).1,λb hb=>p.bl b (List.mem_filter.1 hb).1,List.length_filter_le _ _⟩
def PC.Xi(p:PC (f+1) N M ts l){x:Nd}(h:x∈ts){k:List Nd}(c:k∈parts ts):PC f (N+1000) M k (rn F (cZ ts l) (parts ts) x.vars x.vars.length).2:=by
 obtain⟨h1,h2,j⟩:=p.root h;obtain⟨r1,r2,i,m⟩:=p.rel;have d:=xf (F:=F) (l:=cZ ts l) (ks:=parts ts) (vs:=x.vars) r2 h2 (λk c=>(p.part c).2.2.1) x.vars.length;have hl:=Fu (F:=F) (l:=cZ ts l) (ks:=parts ts) (vs:=x.vars) x.vars.length;have hp:=p.part c;have nb:=p.nb;have ll:=p.ll;refine⟨hp.1,hp.2.1,hp.2.2.1.mono (by omega),λb hb=>?_,λb hb=>?_,λb hb=>?_,p.m1,hp.2.2.2,by omega,by omega⟩
 ·rcases d.2 b hb with g | ⟨a,nm,e,rfl,g⟩
  ·exact r1 b g
  ·exact akM (by omega)
 ·rcases d.2 b hb with g | ⟨a,nm,e,rfl,g⟩
  ·exact(r2 b g).mono (by omega)
  ·exact akN (by omega)
 ·rcases d.2 b hb with g | ⟨a,nm,e,rfl,g⟩
  ·exact i b g
  ·exact p.m1
end
def Ps(M:Nat)(ts u:List Nd):Prop:=Bd u/\xE u/\u.length<=ts.length*M
def Fv{M:Nat}{ts:List Nd}{x:Nd}{g:List Nd->List Nd}(r:Rt ts)(m1:1<=M)(sz:ts.length*M<=90000)(c:Bn x)(h:∀k∈parts ts,Ps M k (g k)):Ps M ts (jr x ((parts ts).map g))/\Kd ((parts ts).map g):=by
 have e:=akU r;have n:=TJ (M:=M) (g:=g) (l:=parts ts) λt ht=>(h t ht).2.2;have o:=BN r.pos;have p:=r.bd.gw (ts.length - 1) (by have:=r.pos;omega);have h2:lens (parts ts)*M+M<=ts.length*M:=by have:=fJ M e;rw[fM,Nat.one_mul]at this;exact this
 have a:∀t∈(parts ts).map g,Bd t/\xE t:=λt ht=>by obtain⟨k,b,rfl⟩:=List.mem_map.1 ht;exact⟨(h k b).1,(h k b).2.1⟩
 have q:(parts ts).length<=lens ((parts ts).map g):=by
  have key:∀l:List (List Nd),(∀t∈l,0<t.length)->l.length<=lens l:=by
   intro l
   induction l with
   | nil=>intro _;exact pN _
   | cons t l ih=>
    intro d;have:=d t (by simp);have:=ih λu m=>d u (by simp[m]);simp only[lens,dy];omega
  have:=key ((parts ts).map g) λt ht=>(a t ht).2.1;simpa using this
 refine⟨⟨aj9 (by omega) (by rw[kJ];omega) c.2.1 c.2.2.1 c.2.2.2 λt ht=>(a t ht).1,akT λt ht=>(a t ht).2,by rw[uQ];omega⟩,by rw[kJ];omega,by omega,λi hi=>(a _ (bK hi)).1,λi hi j hj k b=>?_⟩;have s:=(a _ (bK hi)).2.kr.2 _ (bK hj) k b;have v:=(a _ (bK hi)).1.len;omega
def akX{ts:List Nd}(h:0<ts.length):ts.getLast?=some (ts[ts.length - 1]'(by omega)):=by rw[List.getLast?_eq_getElem?,df (by omega)]
def put_eq{F f:Nat}{ts:List Nd}{l:List Bi}(h:0<ts.length){n:Nd}(a:ts[ts.length - 1]'(by omega)=n):put F (f+1) ts l=
 if n.op=3 then (my n.name l).getD ts
 else if n.op=17\/n.op=18 then
  jr { n with vars:=(rn F (cZ ts l) (parts ts) n.vars n.vars.length).1} ((parts ts).map λk=>put F f k (rn F (cZ ts l) (parts ts) n.vars n.vars.length).2)
 else jr n ((parts ts).map λk=>put F f k l):=by
 rw[put,akX h,a]
def xg{F:Nat}:∀{f N M:Nat} {ts:List Nd} {l:List Bi},PC f N M ts l->Ps M ts (put F f ts l)
 | 0,N,M,ts,l,p=>by have:=p.len;have:=p.rt.pos;omega
 | f+1,N,M,ts,l,p=>by
  have h0:=p.rt.pos;have hm:=p.m1;have e:ts[ts.length - 1]'(by omega)∈ts:=bK _;obtain⟨v1,g,d⟩:=p.root e;have h:ts.length<=ts.length*M:=Nat.le_mul_of_pos_right _ hm;have i:M<=ts.length*M:=Nat.le_mul_of_pos_left _ h0;rw[put_eq h0 rfl];split
  ·cases hf:my (ts[ts.length - 1]'(by omega)).name l with
   | none=>exact⟨p.rt.bd,p.rt.lts,h⟩
   | some b=>
    obtain⟨q,h1,h2⟩:=Cm hf;have:=p.bl q h1;have a:=p.K4 q h1;rw[h2]at this a;exact⟨a.bd,a.lts,by show b.length<=_;omega⟩
  ·split
   ·have a:=xf (F:=F) (l:=cZ ts l) (ks:=parts ts) (vs:=(ts[ts.length - 1]'(by omega)).vars) p.rel.2.1 g (λk c=>(p.part c).2.2.1) (ts[ts.length - 1]'(by omega)).vars.length;have j:=xd (F:=F) (l:=cZ ts l) (ks:=parts ts) (vs:=(ts[ts.length - 1]'(by omega)).vars) (ts[ts.length - 1]'(by omega)).vars.length;have nb:=p.nb;have hB:Bn { (ts[ts.length - 1]'(by omega)) with vars:=(rn F (cZ ts l) (parts ts) (ts[ts.length - 1]'(by omega)).vars (ts[ts.length - 1]'(by omega)).vars.length).1}:=
     ⟨d.1,d.2.1,by show(rn _ _ _ _ _).1.length<_;omega,λv hv=>by have:=a.1 v hv;omega⟩
    exact(Fv p.rt hm p.sz hB λk c=>xg (p.Xi e c)).1
   ·exact(Fv p.rt hm p.sz d λk c=>xg (p.gw c)).1
end
end Go.Ev.X
namespace Go.Ev.X
open Go Go.Ev
attribute [local irreducible] WC WO WD SO ν
section
variable {C:Nat->Option aI}{Q:V->Hf->K->Prop}
def rN(C:Nat->Option aI)(g F f:Nat):Prop:=∀{h:Hf} {n:K} {t vl:V} {ts:List Nd} {l:List Bi} {N M:Nat} {Q:V->Hf->K->Prop},aZ h n t ts->dZ h n vl l->PC f N M ts l->(∀v h' n',Ext h n h' n'->TG h' n n' v (put F f ts l)->Q v h' n')->ν C (.f g [] []) [t,vl] h n Q
def TK(d:fh C){F f N M:Nat}(ih:rN C 47 F f){h0 h:Hf}{n0 n b5 m:K}{x:Nd}{vv kv vk vi:V}{ts:List Nd}{inner:List Bi}(e:Ext h0 n0 h n)(c5:Cl h n b5 (bW x vv kv) 87)(hv:du h n vv x.vars){kz:List Int}(l:da h n .i64 kv kz)(s:iS h n vk (parts ts))(u:Cl h n m [vi] 97)(y:dZ h n vi inner)(rt:Rt ts)(m1:1<=M)(sz:ts.length*M<=90000)(o:Bn x)(hp:∀k∈parts ts,PC f N M k inner)
 (A:∀v h' n',Ext h0 n0 h' n'->TG h' n0 n' v (jr x ((parts ts).map λk=>put F f k inner))->Q v h' n'):
 WC C Qm [(k5,.p b5 0),(k8,vk),(k9,.p m 0)] h n (fq [.t k4] Q):=by
 have nt:=BN rt.pos;have bP:=rt.bd.gw (ts.length - 1) (by have:=rt.pos;omega);obtain⟨hs,ie,B,D⟩:=s;have E:=(Fv (g:=λk=>put F f k inner) rt m1 sz o λk G=>xg (hp k G)).2;have I:(List.range (parts ts).length).map (λi=>put F f ((parts ts).getD i []) inner)=(parts ts).map λk=>put F f k inner:=by
  apply vO (by simp);intro j h1 h2;have hj:j<(parts ts).length:=by simpa using h1
  simp only[List.getElem_map,List.getElem_range,dH,df hj,Option.getD_some]
 have J:kv.one=true:=κ.one l;have L:bk n (.a (bW x vv kv))=true:=by simp[bk,fC,bW,st,κ.below hv (φ _),κ.below l (φ _)]
 have O:cI (.a (bW x vv kv)) (.a (bW x vv kv))=true:=by simp[cI,jA,bW,st,ff,fg,κ.cH hv,κ.cH l,fS,ic,cB]
 have l5:∀{H:Hf} {n':K},Ext h n H n'->bj H true 5 (.p b5 0)=some (.a (bW x vv kv)):=λex=>bc (c5.ext ex).2 (iL rfl);refine cX<|aC U (l5 (Ext.refl _ _)) L O<|ak U<|aaM U U<|aY U U<|Th (show C 128=some (.go f197) from d.f128) (of:=λi=>put F f ((parts ts).getD i []) inner) B (by omega) (λi w h2 P Q' hi c b q=>?_) <| λv2 h2 P b l2=>aY U U<|w64 d.toCd E (by rw[←I];exact l2 h2 λ_ _ _=>rfl) (κ.ext hv b) J (by have:=o.2.2.1;omega) <| λR S T W tg=>ak U<|bU (⟨⟨ω (by simp[Nat.testBit]),bH (l5 (Ext.refl _ _)) (l5 b),trivial⟩,trivial⟩) ?_
 ·have r:i<hs.length:=by omega
  rw[J6 r]at c;injection c with c;subst c;have tm:=(D i r hi).ext b;have X:(parts ts).getD i []=(parts ts)[i]:=by rw[dH,df hi];rfl
  simp only[X]at q;refine ν.go d.f129 U ?_;refine ε<|γ U<|δ ?_;refine ε<|γ U<|ξ U ((u.ext b).ld U _)<|ψ U U<|ih tm (y.ext b) (hp _ (bK hi)) <| λY Z n4 e4 tg4=>γ U<|δ (Γ ⟨_,rfl,q Y Z n4 e4 tg4⟩)
 ·have z:=e.1;have z2:=b.1;exact Γ ⟨_,rfl,A R S T ((e.trans b).trans W) (tg.low (by omega))⟩
end
section
variable {C:Nat->Option aI}{Q:V->Hf->K->Prop}
def akY(a:fh C){F f N M:Nat}(hF:2000000<=F)(ih:rN C 47 F f){h0 h:Hf}{n0 n b5 A lo hi:K}{x:Nd}{t vl vv kv vk:V}{ts:List Nd}{l:List Bi}(ht:aZ h0 n0 t ts)(hl:dZ h0 n0 vl l)(p:PC (f+1) N M ts l)(e:Ext h0 n0 h n)(c5:Cl h n b5 (bW x vv kv) 87)(o1:n0.num<=b5.num)(hv:du h0 n0 vv x.vars)(zQ:da h0 n0 .i64 kv x.kids)
 (kk:Wh h lo hi vk (parts ts))(q1:b5.num<lo.num)(q2:hi.num<=A.num)(q3:b5.num<A.num)(X:Cl h n A [vl] 97)(Y:ts[ts.length - 1]'(by have:=p.rt.pos;omega)=x)(gJ:¬ x.op=3)(bp:x.op=17\/x.op=18)
 (hQ:∀v h' n',Ext h0 n0 h' n'->TG h' n0 n' v (put F (f+1) ts l)->Q v h' n'):
 WC C Qi [(k0,t),(k1,vl),(k5,.p b5 0),(k8,vk),(k9,.p A 0)] h n (sq C Qm (fq [.t k4] Q)):=by
 have vH:=p.rt.pos;have Z:x∈ts:=by rw[←Y];exact bK _
 obtain⟨v1,v2,v3⟩:=p.root Z;have ll:=p.ll;have nb:=p.nb;obtain⟨ms0,mh,xC,Ki⟩:=id hl;have L:=p.rel;refine ε<|γ U<|ψ U U<|MO a (ht.ext e) p.rt.bd p.rt.pos p.rt.ord <| λvf h1 n1 e1 O hvf=>bA <| λh2 P dS a2 e2=>aH U U a2 (mR (κ.cells O) (κ.one O) U) <| λR a3 b3=>δ ?_;have b3:bm n1 h2 R:=b3;have x3:Ext h1 n1 R P:=e2.ab b3 (φ _);have H:=e1.trans x3;have cf:Cl R P n1 [vf] 28:=⟨by omega,a3⟩;have if3:=du.ext O x3;have z3:=H.1;have q7:=a.f123;refine ε<|γ U<|ψ U U<|Tn a (xC.ext (e.trans H)) (by omega) <| λv4 h4 n4 e4 o4 p4=>rC U U<|ψ U U<|akG a (p:=λb=>!lZ b.1 ts) (φ _) (e.trans H) mh e4 o4 p4 Ki (by omega) (λy m h' n' Q' hy tm ey hq=>?_) <| λv5 h5 n5 e5 o5=>γ U<|δ ?_
 ·have bf:aD [st y.1,m]=true:=by simp only[aD,tm.one];rfl
  refine ν.go a.f123 U ?_;refine ε<|cR U U bf <| λS u jl a6 o=>γ U<|δ ?_;refine ε<|ξ U ((cf.ext (ey.trans o)).ld U _)<|σ U<|ξ U (cE a6 rfl _)<|ψ U U<|sU a.toCd ((du.ext if3 ey).ext o) (xb p.rt) <| λG n7 e7=>bZ U<|γ U<|δ (Γ ⟨_,rfl,hq G n7 (o.trans e7)⟩)
 have akZ:(l.filter λb=>!(!lZ b.1 ts))=cZ ts l:=by unfold cZ;congr 1;funext b;simp
 rw[akZ]at o5;have T:=H.trans e5;have z5:=T.1;obtain⟨MU,MV,C3,C6,Dd⟩:=id o5;have c95:=X.ext T;refine ε<|γ U<|ψ U U<|Tn a C3 (by omega) <| λB S u o o6 p6=>aH U U ((c95.ext o).2) (mR o6.sl.cells o6.sl.one U) <| λG a7 b7=>δ ?_;have b7:bm A S G:=b7;have z6:=o.1;have zb:=X.1;have I:=T.trans o;have y7:Ext h n S u:=I;have c57:Cl G u b5 (bW x vv kv) 87:=(c5.ext I).ab b7 (by omega);have w7:Ext h0 n0 G u:=(e.trans I).ab b7 (by omega);refine ε<|σ U<|ξ U (c57.ld U _)<|ψ U U<|KC a.toCd (du.ext hv w7) (by omega) <| λw h8 q z J p8=>σ U<|aH U U ((c57.ext z).2) (wS J.sl.cells J.sl.one) <| λi W r=>δ ?_;have r:bm b5 h8 i:=r;have W:i b5=some (.c (bW x w kv) 87 0):=W;have z8:=z.1;have zb5:=c5.1;have Fw:=J.lt;have Fx:=o6.lt;have TL:=o5.lt;have dS:=dS;have w9:Ext h0 n0 i q:=(w7.trans z).ab r o1;have f5:Cl i q b5 (bW x w kv) 87:=⟨by omega,W⟩;have o8':Ow i q 64 2 w x.vars.length (fW x.vars):=J.bO (p8.imp id λg=>r _ (by omega)) (φ _);have z25:=e5.1;have K5:B=.ns\/n5.num<=B.blk.num/\B.blk.num<u.num:=by
  rcases p6 with g | g
  ·exact Or.inl g
  ·exact Fx.imp id λk=>⟨g,k⟩
 have MW:w=.ns\/u.num<=w.blk.num/\w.blk.num<q.num:=by
  rcases p8 with g | g
  ·exact Or.inl g
  ·exact Fw.imp id λk=>⟨g,k⟩
 have QI:QS 38 h0 n0 i q b5 P n5 u q x kv v5 w B (cZ ts l) (cZ ts l) x.vars:=
  ⟨w9,f5,o5.bO (TL.imp id λg=>by rw[r _ (by omega),z.2 _ (by omega),b7 _ (by omega),o.2 _ g.2]) (by omega),TL.imp id And.right,o8',MW,⟨MU,MV,o6.bO (K5.imp id λg=>by rw[r _ (by omega),z.2 _ g.2,b7 _ (by omega)]) (by omega),λj hj=>Or.inl (Dd j hj)⟩,K5.imp id Or.inl,o1,by omega,by omega,by omega,by omega,φ _⟩
 have kk9:Wh i lo hi vk (parts ts):=kk.bO λb g1 g2=>by rw[r _ (by omega),z.2 _ (by omega),b7 _ (by omega),I.2 _ (by omega)]
 have f9:Cl i q A [B] 97:=(Cl.ext ⟨by omega,a7⟩ z).ab r (by omega);have iW:∀k∈parts ts,Rt k/\jX N k:=λk d=>⟨(p.part d).1,(p.part d).2.2.1⟩;have nt:=BN p.rt.pos;have bP:=p.rt.bd.gw (ts.length - 1) (by omega);refine ε<|σ U<|ξ U (f5.ld U _)<|al U o8'.sl<|γ U<|δ ?_;refine aj<|χ (akO a (F:=F) (N:=N) q1 q2 (by omega) q3 (by omega) (by omega) v1 L.1 (λk d=>(iW k d).1) L.2.1 v2 (λk d=>(iW k d).2) (by omega) (by omega) ?_ _ 0 B i q rfl (by omega) QI kk9 f9) (ρ.rf U);intro vi hh nn E D kkQ cQ s;refine bS s ?_;have hr:=xf (F:=F) (l:=cZ ts l) (ks:=parts ts) (vs:=x.vars) L.2.1 v2 (λk d=>(p.part d).2.2.1) x.vars.length;have gD:=xd (F:=F) (l:=cZ ts l) (ks:=parts ts) (vs:=x.vars) x.vars.length;have hB:Bn { x with vars:=(rn F (cZ ts l) (parts ts) x.vars x.vars.length).1}:=⟨v3.1,v3.2.1,by show(rn _ _ _ _ _).1.length<_;omega,λv hv=>by have:=hr.1 v hv;omega⟩;have zz:=D.o6;refine TK a (x:={ x with vars:=(rn F (cZ ts l) (parts ts) x.vars x.vars.length).1}) ih D.e D.c5 D.vo.sl (da.ext zQ D.e) ((kkQ hh λ_ _ _=>rfl).ext ⟨by omega,λ_ _=>rfl⟩) cQ D.bi p.rt p.m1 p.sz hB (λk d=>p.Xi Z d) λv h' n' ex tg=>hQ v h' n' ex ?_;rw[put_eq vH Y,Θ gJ,ao bp];exact tg
end
section
variable {C:Nat->Option aI}
def ak2(a:fh C){F f:Nat}(hF:2000000<=F)(ih:rN C 47 F f):rN C 47 F (f+1):=by
 intro h n t vl ts l N M Q ht hl p y;have z:=p.rt.pos;have hlen:=p.rt.bd.len;have ll:=p.ll;obtain⟨x,o⟩:∃x,ts[ts.length - 1]'(by omega)=x:=⟨_,rfl⟩;have jG:x∈ts:=by rw[←o];exact bK _
 obtain⟨v1,v2,v3⟩:=p.root jG;obtain⟨m,tm⟩:=id ht;refine ν.go a.f47 U ?_;refine ε<|γ U<|δ ?_;refine ε<|γ U<|ψ U U<|w61 a.toCd tm (by omega) z λh1 n1 vv kv T _ hv e=>?_;rw[o]at hv e ⊢;have bf:=jm x (κ.one hv) (κ.one e);refine bA <| λh2 V dS a2 e2=>aH U U a2 (cj rfl rfl bf) <| λG a3 b3=>δ ?_;have b3:bm n1 h2 G:=b3;have x3:Ext h1 n1 G V:=e2.ab b3 (φ _);have A:=T.trans x3;have c5:Cl G V n1 (bW x vv kv) 87:=⟨by omega,a3⟩;have z1:=T.1;by_cases r:x.op=3
 ·refine θ<|ε<|σ U<|ξ U (c5.ld U _)<|aS U U<|δ ?_;refine ah U (by simpa using r) ?_;refine θ<|ε<|γ U<|σ U<|ξ U (c5.ld U _)<|ψ U U<|Xa a (hl.ext A) (by omega) <| λs mm H i u I=>γ U<|bF U U<|bF U U<|bA <| λJ B oi K L=>aH U U K (cj (l:=[.s 0 0,.ns]) (cs:=[st s,mm]) U U (by simp only[aD,I.one];rfl)) <| λd O b6=>γ U<|δ ?_;have b6:bm i J d:=b6;have j:Ext H i d B:=L.ab b6 (φ _);have c:=(A.trans u).trans j;have W:=c.1;have w:=put_eq (F:=F) (f:=f) (l:=l) z o;rw[ao r]at w;refine ε<|γ U<|δ ?_;cases hf:my x.name l with
  | none=>
   rw[hf]at w;refine ae U U<|Ω ?_;refine ε<|γ U<|ψ U U<|Ff a.toCd (ht.ext c) p.rt.bd <| λv mo P R S tg=>γ U<|δ (Γ ⟨_,rfl,y v P R (c.trans S) (by rw[w];exact tg.tg W)⟩)
  | some b=>
   rw[hf]at w I;obtain⟨q,h1q,h2q⟩:=Cm hf;have mr:Bd b:=by rw[←h2q];exact(p.K4 q h1q).bd
   refine ah U U ?_;refine ε<|σ U<|ξ U (cE O rfl _)<|ψ U U<|Ff a.toCd (ts:=b) (aZ.ext I j) mr <| λv mo P R S tg=>γ U<|δ (Γ ⟨_,rfl,y v P R (c.trans S) (by rw[w];exact tg.tg W)⟩)
 refine θ<|ε<|σ U<|ξ U (c5.ld U _)<|aS U U<|δ ?_;refine ae U (by simpa using r)<|Ω ?_;refine ε<|γ U<|ψ U U<|akw a (ht.ext A) p.rt.bd z p.rt.ord <| λvk H i u kk=>γ U<|δ ?_;have X:=(hl.sl).choose_spec;refine ε<|γ U<|bA <| λJ B oi K L=>aH U U K (mR X.cells X.one U) <| λd O b6=>δ ?_;have b6:bm i J d:=b6;have j:Ext H i d B:=L.ab b6 (φ _);have c:=(A.trans u).trans j;have z4:=u.1;have Y:Cl d B i [vl] 97:=⟨by omega,O⟩;have D:=c5.ext (u.trans j);have Z:=kk.bO (h':=d) λb _ g=>j.2 b g;by_cases E:x.op=17\/x.op=18
 ·refine θ<|ε<|σ U<|ξ U (D.ld U _)<|ψ U U<|zq a.toCd.f56<|δ ?_;refine ah U (by simpa using E) ?_;exact χ (akY a hF ih ht hl p c D (by omega) hv e Z (by omega) (φ _) (by omega) Y o r E y) (ρ.rf U)
 ·refine θ<|ε<|σ U<|ξ U (D.ld U _)<|ψ U U<|zq a.toCd.f56<|δ ?_;refine ae U (by simpa using E)<|Ω ?_;refine χ (TK a (x:=x) ih c D (du.ext hv c) (da.ext e c) ((Z d λ_ _ _=>rfl).ext ⟨by omega,λ_ _=>rfl⟩) Y (hl.ext c) p.rt p.m1 p.sz v3 (λk e=>p.gw e) λv h' n' ex tg=>y v h' n' ex ?_) (ρ.rf U);rw[put_eq z o,Θ r,Θ E];exact tg
def w47(a:fh C){F:Nat}(b:2000000<=F):∀f,rN C 47 F f
 | 0=>by intro ht hl p c;have:=p.len;have:=p.rt.pos;omega
 | f+1=>ak2 a b (w47 a b f)
end
section
variable {C:Nat->Option aI}
section
variable {h0 hS:Hf}{n0 nS b5 lb li lv nL b9:K}{x:Nd}{kv vl vv vi t xi:V}{ts:List Nd}{l inner:List Bi}{vs:List (S×S)}{N:Nat}
def ak5(g:fh C)(a:QS 39 h0 n0 hS nS b5 lb li lv nL x kv vl vv vi l inner vs)(ht:aZ h0 n0 t ts)(rt:Rt ts)(j:l.length<1000000)(r:vs.length<1000000)(m:∀b∈l,Rt b.2)(q:∀k∈parts ts,Rt k)(nl:∀b∈l,jX N b.2)(u:∀v∈vs,v.1.length<=N)(w:∀k∈parts ts,jX N k)(B:N<1000000){Q1:Ex->Env->Hf->K->Prop}{s0:S}
 (y:∀h n E',Ext hS nS h n->ρ [(k0,t),(k1,vl),(k5,.p b5 0),(k7,vi),(k8,xi),(k9,.p b9 0),(qg,st s0)] E'->Q1 .normal E' h n):
 ∀(f:Nat) (s:S) (h:Hf) (n:K),Ext hS nS h n->fresh l vs (parts ts) f s=s0->N+1<s.length+f->s.length<=N+1->WC C Qt [(k0,t),(k1,vl),(k5,.p b5 0),(k7,vi),(k8,xi),(k9,.p b9 0),(qg,st s)] h n (blk 2 Q1):=by
 have D:=rt.bd.gw (ts.length - 1) (by have:=rt.pos;omega);have F:=BN rt.pos;intro f
 induction f with
 | zero=>
  intro s h n e hf g1 z;omega
 | succ f ih=>
  intro s h n e hf g1 z;have a':=a.ext e;have o:=a'.bl.bi a'.e;have again:∀{h' n' E},taken l vs (parts ts) s=true->Ext h n h' n'->ρ [(k0,t),(k1,vl),(k5,.p b5 0),(k7,vi),(k8,xi),(k9,.p b9 0),(qg,st s)] E->WC C adf E h' n' (sq C (.loop Qu) (blk 2 Q1)):=by
   intro h' n' E ht ex sE;refine bS sE<|aj ?_;refine aA<|γ U<|D9 (b:=[39]) U U (by simp only[dy,jy];omega)<|γ U<|δ ?_;refine χ (ih (s++[39]) h' n' (e.trans ex) ?_ ?_ ?_) (ρ.rf U)
   ·rw[←hf,fresh,ao ht]
   ·simp;omega
   ·by_cases hs:s.length<=N
    ·simp;omega
    ·rw[KY nl u w (by omega)]at ht;cases ht
  refine ax ?_;by_cases hm:nj s l=true
  ·refine θ<|ε<|γ U<|γ U<|ψ U U<|Fp g o j m <| λh1 n1 d=>γ U<|μ U (hm)<|μ U (hm)<|μ U (hm)<|aU U (hm) U<|γ U<|μ U U<|μ U U<|μ U U<|μ U U<|μ U U<|aU U U U<|δ ?_;exact ah U U (Ω (again (by simp[taken,hm]) d (ρ.rf U)))
  simp only[nG]at hm;by_cases c:rL s (parts ts)=true
  ·refine θ<|ε<|γ U<|γ U<|ψ U U<|Fp g o j m <| λh1 n1 d=>γ U<|ζ U (hm)<|γ U<|ζ U (hm)<|γ U<|ζ U (hm)<|ψ U U<|Tj g (ht.ext (a'.e.trans d)) rt q (by omega) <| λh2 A i=>aL U (hm) U<|γ U<|μ U (c)<|μ U (c)<|μ U (c)<|μ U (c)<|μ U (c)<|aU U (c) U<|δ ?_;exact ah U U (Ω (again (by simp[taken,c]) (d.trans i) (ρ.rf U)))
  simp only[nG]at c;refine θ<|ε<|γ U<|γ U<|ψ U U<|Fp g o j m <| λh1 n1 d=>γ U<|ζ U (hm)<|γ U<|ζ U (hm)<|γ U<|ζ U (hm)<|ψ U U<|Tj g (ht.ext (a'.e.trans d)) rt q (by omega) <| λh2 A i=>aL U (hm) U<|γ U<|ζ U (c)<|σ U<|ζ U (c)<|ξ U ((a'.c5.ext (d.trans i)).ld U _)<|ζ U (c)<|γ U<|ζ U (c)<|ψ U U<|uK g.toCd ((a'.ext (d.trans i)).vo.sl) r<|ζ U (c)<|dj U U<|aL U (c) U<|δ ?_;by_cases hv:s∈vs.map Prod.fst
  ·exact ah U (by rw[Bu];simp[hv]) (Ω (again (by simp[taken,hv]) (d.trans i) (ρ.rf U)))
  ·refine ae U (by rw[Bu];simp[hv])<|aJ ?_;have x3:=d.trans i;have:s0=s:=by rw[←hf,fresh,Θ (by simp[taken,hm,hv,c])]
   subst this;exact y _ _ _ (e.trans x3) (ρ.rf U)
end
end
section
variable {C:Nat->Option aI}
section
variable {h0:Hf}{n0 b5 lb li lv nL:K}{x:Nd}{kv vl vv t:V}{ts:List Nd}{l:List Bi}{vars:List (S×S)}{N F:Nat}
def ak6(u:fh C)(ht:aZ h0 n0 t ts)(rt:Rt ts)(J:l.length<1000000)(mP:vars.length<1000)(L:∀b∈l,Rt b.2)(rk:∀k∈parts ts,Rt k)(nl:∀b∈l,jX N b.2)(M:∀v∈vars,v.1.length<=N)(O:∀k∈parts ts,jX N k)(hN:N<990000)(hF:N+1002<F){Q1:Ex->Env->Hf->K->Prop}
 (hQ:∀vi vv h n E',QS 39 h0 n0 h n b5 lb li lv nL x kv vl vv vi l (rn F l (parts ts) vars vars.length).2 (rn F l (parts ts) vars vars.length).1->ρ [(k0,t),(k5,.p b5 0),(k7,vi)] E'->Q1 .normal E' h n):
 ∀(r i:Nat) (vi:V) (h:Hf) (n:K),vars.length - i=r->i<=vars.length->QS 39 h0 n0 h n b5 lb li lv nL x kv vl vv vi l (rn F l (parts ts) vars i).2 (rn F l (parts ts) vars i).1->WC C Qs [(k0,t),(k1,vl),(k5,.p b5 0),(k7,vi),(k8,iN i)] h n (blk 0 Q1):=by
 intro r
 induction r with
 | zero=>
  intro i vi h n w fw a;have:i=vars.length:=by omega
  subst this;have m:(rn F l (parts ts) vars vars.length).1.length=vars.length:=xd vars.length;have hB:du h n vv (rn F l (parts ts) vars vars.length).1:=a.vo.sl;refine ax ?_;refine θ<|ε<|γ U<|σ U<|ξ U (a.c5.ld U _)<|al U hB<|ay U U<|δ ?_;exact ae U (by rw[m];simp)<|aJ (hQ vi vv h n _ a (ρ.rf U))
 | succ r ih=>
  intro i vi h n w fw a;have y:i<vars.length:=by omega
  have m:(rn F l (parts ts) vars i).1.length=vars.length:=xd i;have A:=xf (F:=F) (l:=l) (ks:=parts ts) (vs:=vars) nl M O i;have o:=K0 (F:=F) (l:=l) (ks:=parts ts) y;have q:=Co (F:=F) (l:=l) (ks:=parts ts) (vs:=vars) (j:=i) i (φ _);have hnv:=M _ (bK y);obtain⟨vs,inner,P⟩:∃vs inner,rn F l (parts ts) vars i=(vs,inner):=⟨_,_,rfl⟩;rw[P]at a m A o q;simp only at a m A o q;have Q:vs[i]'(by omega)=vars[i]:=by rw[df (by omega),df y]at q;injection q
  have o1:=a.o1;have o2:=a.o2;have o3:=a.o3;have o4:=a.o4;have o5:=a.o5;have o6:=a.o6;have hB:du h n vv vs:=a.vo.sl;have R:=hB.jP (i:=i) (by omega);rw[Q]at R;refine ax ?_;refine θ<|ε<|γ U<|σ U<|ξ U (a.c5.ld U _)<|al U hB<|ay U U<|δ ?_;refine ah U (by rw[m];simp;omega)<|Ω ?_;refine θ<|aj<|ε<|σ U<|ξ U (a.c5.ld U _)<|γ U<|aB U U hB (by omega)<|ξ U R<|bA <| λh1 n1 cA a1 e1=>aH U U a1 (cj (l:=[.s 0 0,.s 0 0]) U U U) <| λh2 a2 b2=>δ ?_;have b2:bm n h1 h2:=b2;have x2:Ext h n h2 n1:=e1.ab b2 (φ _);have B:Cl h2 n1 n [st vars[i].1,st vars[i].2] 64:=⟨by omega,a2⟩;have T:=a.ext x2;refine θ<|ε<|γ U<|σ U<|ξ U (B.ld U _)<|ψ U U<|Fp u (T.bl.bi T.e) J L <| λW X D=>bZ U<|δ ?_;have x3:=x2.trans D;by_cases hm:nj vars[i].1 l=true
  case neg=>
   simp only[nG]at hm;refine ah U (by rw[hm];rfl)<|aJ ?_;refine aA<|γ U<|aX U U ⟨by omega,by omega⟩<|γ U<|δ ?_;have e0:rn F l (parts ts) vars (i+1)=(vs,inner):=by rw[o,Θ (by rw[hm];decide)]
   refine χ (ih (i+1) vi W X (by omega) (by omega) ?_) (ρ.rf U);rw[e0];exact a.ext x3
  refine ae U (by rw[hm];rfl)<|Ω ?_;refine ε<|σ U<|ξ U ((B.ext D).ld U _)<|D9 (b:=[39]) U U (by simp only[dy,jy];omega)<|γ U<|δ ?_;have Y:=a.ext x3;generalize xr:fresh l vs (parts ts) F (vars[i].1++[39])=nm at*;have z3:=x3.1;refine θ<|aj<|χ (ak5 u (s0:=nm) (N:=N+i) Y ht rt J (by omega) L rk (λb hb=>(nl b hb).mono (by omega)) A.1 (λk hk=>(O k hk).mono (by omega)) (by omega) ?_ F (vars[i].1++[39]) W X (Ext.refl _ _) xr (by simp;omega) (by simp;omega)) (ρ.rf U);intro h7 Z E7 E s;refine bS s ?_;have d:=Y.ext E;have d9:=B.ext (D.trans E);have z7:=E.1;have aG:vv≠.ns:=by
   intro e;rcases d.vo with ⟨g,_⟩ | ⟨_,g,g2,_⟩
   ·have:=g.nil e;omega
   ·omega
  obtain⟨v1,v2⟩:=d.vb.resolve_left aG;have rM:vv=.su vv.blk 0 vs.length 2/\h7 vv.blk=some (.c (fW vs) 64 0):=by
   rcases d.vo with ⟨g,_⟩ | ⟨_,g,g2,_⟩
   ·exact g.su.resolve_left aG
   ·omega
  have tq:vv.off=0:=by rw[rM.1];rfl
  have kN:ju (fW vs) 0 (vv.off+i*2+0) 1 (st nm)=some (fW (vs.set i (nm,vars[i].2))):=by rw[tq];refine mR rfl rfl ?_;rw[eW,hJ,K1 (by omega),Q]
  refine ε<|σ U<|ξ U (d.c5.ld U _)<|γ U<|γ U<|aB U U d.vo.sl (by omega)<|σ U<|aH U U rM.2 kN <| λh8 a8 b8=>δ ?_;have G:=d.TA (i:=i) (p:=(nm,vars[i].2)) (by omega) b8 a8;obtain⟨ms,xD,ho,tz⟩:=G.io;have jT:inner.length<=l.length+i:=by have:=Fu (F:=F) (l:=l) (ks:=parts ts) (vs:=vars) i;rw[P]at this;exact this
  have f9:Cl h8 Z n [st vars[i].1,st vars[i].2] 64:=d9.ab b8 (by omega);have oO:=G.ib;have l9:∀{H:Hf},Ag Z h8 H->bj H false 1 (.p n (0+0))=some (st vars[i].1):=λag=>(f9.ext (ag.x (φ _))).ld U _;refine nO<|ak U<|bG U<|aC U (f9.ld U _) U (fg _ _)<|ak U<|bG U<|aC U (f9.ld U _) U (fg _ _)<|aY U U<|w27 (show C 135=some (.go f27) from u.f135) <| λb' h9 n9 f je dY w=>qi U<|lP U <| λgP dD E8 oE I=>Sf U (ho.ext (f.trans I)) U (κ.whole (len:=1) (z:=2) (by omega) oE rfl) (by omega) (by omega) (by omega) (by omega) U <| λv11 fX oM zN Gt E0 K3=>ak U<|bU (⟨⟨ω (by simp[Nat.testBit]),ω (by simp[Nat.testBit]),trivial⟩,⟨ω (by simp[Nat.testBit]),bH (l9 ((Ag.refl _ _).hp n9 none f.1)) (l9 (f.ag.hp n9 none f.1)),trivial⟩,trivial⟩) ?_;have z9:=f.1;have z10:=I.1;have Dj:ea fX 39 2 v11 (inner.length+1) (iE inner ms++[st vars[i].1,.sl b' 0 1 1]):=by
   rcases zN with ⟨g,_⟩ | ⟨_,_,g2,_⟩
   ·exact g
   ·omega
  have wv:=G.app (nm:=vars[i].1) f je dY w I ms xD tz Dj Gt E0 K3;refine aA<|γ U<|aX U U ⟨by omega,by omega⟩<|γ U<|δ ?_;refine χ (ih (i+1) v11 fX oM (by omega) (by omega) ?_) (ρ.rf U);rw[o,ao hm];exact wv
end
end
section
variable {C:Nat->Option aI}{Q:V->Hf->K->Prop}
def TM(m:fh C){F f N M:Nat}(ih:rN C 53 F f){h0 h:Hf}{n0 n b5:K}{x:Nd}{vv kv t vi:V}{ts:List Nd}{inner:List Bi}(ht:aZ h n t ts)(e:Ext h0 n0 h n)(c5:Cl h n b5 (bW x vv kv) 87)(hv:du h n vv x.vars){kz:List Int}(D:da h n .i64 kv kz)(E:dZ h n vi inner)(rt:Rt ts)(m1:1<=M)(sz:ts.length*M<=90000)(o:Bn x)(hp:∀k∈parts ts,PC f N M k inner)
 (G:∀v h' n',Ext h0 n0 h' n'->TG h' n0 n' v (jr x ((parts ts).map λk=>put F f k inner))->Q v h' n'):
 WC C Ej [(k0,t),(k5,.p b5 0),(k7,vi)] h n (fq [.t k4] Q):=by
 have nt:=BN rt.pos;have bP:=rt.bd.gw (ts.length - 1) (by have:=rt.pos;omega);have H:=(Fv (g:=λk=>put F f k inner) rt m1 sz o λk I=>xg (hp k I)).2;have J:kv.one=true:=κ.one D;refine ε<|γ U<|δ ?_;refine ε<|γ U<|ψ U U<|Sb m.toCd ht rt.bd rt.pos rt.ord <| λvk h1 n1 q hl=>γ U<|δ ?_;obtain⟨cs,hs⟩:=hl.sl;refine θ<|ε<|γ U<|δ ?_;have loop:∀(r i:Nat) (w:V) (us:List V) (h':Hf) (n':K),(parts ts).length - i=r->i<=(parts ts).length->tR h1 n1 h' n' w (((parts ts).take i).map λk=>put F f k inner) us->WC C adg [(k5,.p b5 0),(k7,vi),(qh,w),(rS,vk),(uY,iN i)] h' n' (blk 4 (sq C adh (fq [.t k4] Q))):=by
  intro r
  induction r with
  | zero=>
   intro i w us h' n' L hi g;have:i=(parts ts).length:=by omega
   subst this;rw[eN]at g;refine ax ?_;refine θ<|ε<|γ U<|γ U<|al U (hs.ext g.2.1.ext)<|ay U U<|δ ?_;refine ae U (by simp)<|aJ ?_;have y:=q.trans g.2.1.ext;refine ε<|ξ U (bc (c5.ext y).2 (iL rfl))<|γ U<|ψ U U<|w67 m.toCd H g.lt (du.ext hv y) J (by have:=o.2.2.1;omega) <| λO s j c tg=>γ U<|δ (Γ ⟨_,rfl,G O s j ((e.trans y).trans c) (tg.low (by have:=e.1;have:=y.1;omega))⟩)
  | succ r P=>
   intro i w us h' n' L hi g;have d:i<(parts ts).length:=by omega
   have a:=g.2.1;have z:(((parts ts).take i).map λk=>put F f k inner).length=i:=by simp;omega
   rw[z]at a;obtain⟨u,R,S⟩:=(hl.ext a.ext).get d;refine ax ?_;refine θ<|ε<|γ U<|γ U<|al U (hs.ext a.ext)<|ay U U<|δ ?_;refine ah U (by simp<;>omega)<|Ω ?_;refine θ<|aj<|aA<|γ U<|γ U<|γ U<|aB U U (hs.ext a.ext) d<|ξ U R<|γ U<|ψ U U<|ih S (E.ext (q.trans a.ext)) (hp _ (bK d)) <| λT h2 n2 l tg=>eg (mW rfl tg.t.cells tg.t.one) <| λs j gJ W c=>jF U (((a.on l).on c).own) U (κ.whole (len:=1) (by omega) W rfl) (by omega) (by omega) (by omega) (by omega) (by simp only[aD,tg.t.one];rfl) (((a.on l).on c).lt) <| λX A Y o4 Z jZ B=>γ U<|δ ?_;have Gu:=a.lt;have CY:=c.1;have g4:=g.app (l.trans c) (TG.skip (h':=A) (n':=j) tg (λb je dY=>by rw[B b (by omega) (Gu.imp id λh=>by omega),c.2 b dY]) CY).t (by rw[z];exact o4) Z jZ B;refine aA<|γ U<|aX U U ⟨by omega,by omega⟩<|γ U<|δ ?_;refine χ (P (i+1) X (us++[T]) A Y (by omega) (by omega) ?_) (ρ.rf U);rw[fL d,List.map_append];exact g4
 exact aj<|χ (loop _ 0 .ns [] h1 n1 rfl (by omega) (tR.nil (Ext.refl _ _))) (ρ.rf U)
def ak7(B:fh C){F f N M:Nat}(hF:2000000<=F)(ih:rN C 53 F f){h0 h:Hf}{n0 n b5:K}{x:Nd}{t vl vv:V}{kv:V}{ts:List Nd}{l:List Bi}(ht:aZ h0 n0 t ts)(hl:dZ h0 n0 vl l)(p:PC (f+1) N M ts l)(e:Ext h0 n0 h n)(c5:Cl h n b5 (bW x vv kv) 87)(o1:n0.num<=b5.num)(hv:du h0 n0 vv x.vars)(zQ:da h0 n0 .i64 kv x.kids)
 (O:ts[ts.length - 1]'(by have:=p.rt.pos;omega)=x)(gJ:¬ x.op=3)(bp:x.op=17\/x.op=18)
 (hQ:∀v h' n',Ext h0 n0 h' n'->TG h' n0 n' v (put F (f+1) ts l)->Q v h' n'):
 WC C Qr [(k0,t),(k1,vl),(k5,.p b5 0)] h n (sq C Ej (fq [.t k4] Q)):=by
 have vH:=p.rt.pos;have P:x∈ts:=by rw[←O];exact bK _
 obtain⟨v1,R,S⟩:=p.root P;have ll:=p.ll;have nb:=p.nb;have D:=p.rel;refine ε<|γ U<|γ U<|ψ U U<|akB B (ht.ext e) p.rt hl e (by omega) <| λvr h1 n1 T bo=>γ U<|δ ?_;obtain⟨W,X,G,Y,Z⟩:=bo;refine ε<|eg U <| λh2 n2 dS a2 y=>γ U<|BM U (κ.whole (len:=0) (by omega) a2 rfl) U (G.ext y) (by omega) (by omega) (by omega) <| λq h6 z o6 H p6=>γ U<|δ ?_;have y2:=T.trans y;have I:=y2.trans H;have c56:=c5.ext I;refine ε<|eg U <| λh7 n7 oW a7 r=>σ U<|ξ U ((c56.ext r).ld U _)<|BM U (κ.whole (len:=0) (by omega) a7 rfl) U ((du.ext hv (e.trans I)).ext r) (by omega) (by omega) (by omega) <| λi h8 m A J p8=>σ U<|aH U U (((c56.ext r).ext J).2) (wS A.sl.cells A.sl.one) <| λd L u=>δ ?_;have u:bm b5 h8 d:=u;have L:d b5=some (.c (bW x i kv) 87 0):=L;have z0:=e.1;have z1:=T.1;have z2:=y.1;have z6:=H.1;have z7:=r.1;have z8:=J.1;have zb5:=c5.1;have y8:=r.trans J;have w9:Ext h0 n0 d m:=((e.trans I).trans y8).ab u o1;have f5:Cl d m b5 (bW x i kv) 87:=⟨by omega,L⟩;have TN:vr=.ns\/vr.blk.num<n1.num:=G.cP;have Fx:=o6.lt;have Fw:=A.lt;have K5:q=.ns\/n1.num<=q.blk.num/\q.blk.num<z.num:=by
  rcases p6 with g | g | g
  ·exact Or.inl g
  ·exact Fx.imp id λk=>⟨by rw[g];omega,k⟩
  ·exact Fx.imp id λk=>⟨by rw[g];omega,k⟩
 have MW:i=.ns\/z.num<=i.blk.num/\i.blk.num<m.num:=by
  rcases p8 with g | g | g
  ·exact Or.inl g
  ·exact Fw.imp id λk=>⟨by rw[g];omega,k⟩
  ·exact Fw.imp id λk=>⟨by rw[g];omega,k⟩
 have k9:∀b:K,n.num<=b.num->b.num<z.num->d b=h6 b:=λb g1 w=>by rw[u b (by omega),y8.2 b w]
 have QI:QS 39 h0 n0 d m b5 n n1 z m x kv vr i q (cZ ts l) (cZ ts l) x.vars:=
  ⟨w9,f5,⟨W,X,G.eD (by
   rcases TN with g | g
   ·exact Or.inl g
   ·rcases Y with w | w
    ·exact Or.inl w
    ·exact Or.inr (by rw[k9 _ w (by omega),(y.trans H).2 _ g])) (by omega),Y,Z⟩,TN,A.bO (MW.imp id λg=>u _ (by omega)) (φ _),MW,⟨W,X,o6.bO (K5.imp id λg=>k9 _ (by omega) g.2) (by omega),λj hj=>Or.inl (Z j hj)⟩,K5.imp id Or.inl,o1,by omega,by omega,by omega,by omega,φ _⟩
 have iW:∀k∈parts ts,Rt k/\jX N k:=λk a=>⟨(p.part a).1,(p.part a).2.2.1⟩;refine ε<|γ U<|δ ?_;refine aj<|χ (ak6 B (F:=F) (N:=N) ht p.rt (by omega) (by omega) D.1 (λk a=>(iW k a).1) D.2.1 R (λk a=>(iW k a).2) (by omega) (by omega) ?_ _ 0 q d m rfl (by omega) QI) (ρ.rf U);intro vi vw hh nn E o s;refine bS s ?_;have hr:=xf (F:=F) (l:=cZ ts l) (ks:=parts ts) (vs:=x.vars) D.2.1 R (λk a=>(p.part a).2.2.1) x.vars.length;have gD:=xd (F:=F) (l:=cZ ts l) (ks:=parts ts) (vs:=x.vars) x.vars.length;have hB:Bn { x with vars:=(rn F (cZ ts l) (parts ts) x.vars x.vars.length).1}:=⟨S.1,S.2.1,by show(rn _ _ _ _ _).1.length<_;omega,λv hv=>by have:=hr.1 v hv;omega⟩;refine TM B (x:={ x with vars:=(rn F (cZ ts l) (parts ts) x.vars x.vars.length).1}) ih (ht.ext o.e) o.e o.c5 o.vo.sl (kz:=x.kids) (da.ext zQ o.e) o.bi p.rt p.m1 p.sz hB (λk a=>p.Xi P a) λv h' n' ex tg=>hQ v h' n' ex ?_;rw[put_eq vH O,Θ gJ,ao bp];exact tg
def ak9(b:fh C){F f:Nat}(D:2000000<=F)(ih:rN C 53 F f):rN C 53 F (f+1):=by
 intro h n t vl ts l N M Q ht hl p i;have o:=p.rt.pos;have hlen:=p.rt.bd.len;have ll:=p.ll;obtain⟨x,d⟩:∃x,ts[ts.length - 1]'(by omega)=x:=⟨_,rfl⟩;have E:x∈ts:=by rw[←d];exact bK _
 obtain⟨v1,S,G⟩:=p.root E;obtain⟨m,tm⟩:=id ht;refine ν.go b.f53 U ?_;refine ε<|γ U<|δ ?_;refine ε<|γ U<|ψ U U<|Ml b.toCd tm (by omega) o λh1 n1 vv kv A _ hv c=>?_;rw[d]at hv c ⊢;have H:=jm x (κ.one hv) (κ.one c);refine bA <| λh2 B T I J=>aH U U I (cj rfl rfl H) <| λq L b3=>δ ?_;have b3:bm n1 h2 q:=b3;have x3:Ext h1 n1 q B:=J.ab b3 (φ _);have a:=A.trans x3;have c5:Cl q B n1 (bW x vv kv) 87:=⟨by omega,L⟩;have W:=A.1;by_cases e:x.op=3
 ·refine θ<|ε<|σ U<|ξ U (c5.ld U _)<|aS U U<|δ ?_;refine ah U (by simpa using e) ?_;refine θ<|ε<|γ U<|σ U<|ξ U (c5.ld U _)<|ψ U U<|W9 b (hl.ext a) (by omega)<|γ U<|δ ?_;have g:=put_eq (F:=F) (f:=f) (l:=l) o d;rw[ao e]at g;refine ε<|γ U<|dj U U<|δ ?_;rcases Fl x.name l 0 with ⟨r,s⟩ | ⟨k,r,u,s⟩
  ·rw[r];rw[s]at g;refine ae U (by decide)<|Ω ?_;refine ε<|γ U<|ψ U U<|JZ b.toCd (ht.ext a) p.rt.bd <| λv mo w y z tg=>γ U<|δ (Γ ⟨_,rfl,i v w y (a.trans z) (by rw[g];exact tg.tg (by have:=a.1;omega))⟩)
  ·rw[r,eW];rw[s]at g;obtain⟨cs,hs⟩:=(hl.ext a).sl;obtain⟨mm,O,P⟩:=(hl.ext a).at u;have R:Bd l[k].2:=(p.K4 _ (bK u)).bd;refine ah U (by simp) ?_;refine ε<|γ U<|γ U<|aB U U hs u<|σ U<|ξ U (ka O rfl)<|ψ U U<|JZ b.toCd P R <| λv mo w y z tg=>γ U<|δ (Γ ⟨_,rfl,i v w y (a.trans z) (by rw[g];exact tg.tg (by have:=a.1;omega))⟩)
 refine θ<|ε<|σ U<|ξ U (c5.ld U _)<|aS U U<|δ ?_;refine ae U (by simpa using e)<|Ω ?_;refine ε<|γ U<|γ U<|δ ?_;by_cases j:x.op=17\/x.op=18
 ·refine θ<|ε<|σ U<|ξ U (c5.ld U _)<|ψ U U<|JJ b.toCd<|δ ?_;refine ah U (by simpa using j) ?_;exact χ (ak7 b D ih ht hl p a c5 (by omega) hv c d e j i) (ρ.rf U)
 ·refine θ<|ε<|σ U<|ξ U (c5.ld U _)<|ψ U U<|JJ b.toCd<|δ ?_;refine ae U (by simpa using j)<|Ω ?_;refine χ (TM b (x:=x) ih (ht.ext a) a c5 (du.ext hv a) (da.ext c a) (hl.ext a) p.rt p.m1 p.sz G (λk c=>p.gw c) λv h' n' ex tg=>i v h' n' ex ?_) (ρ.rf U);rw[put_eq o d,Θ e,Θ j];exact tg
def w53(a:fh C){F:Nat}(b:2000000<=F):∀f,rN C 53 F f
 | 0=>by intro ht hl p c;have:=p.len;have:=p.rt.pos;omega
 | f+1=>ak9 a b (w53 a b f)
end
section
variable {C:Nat->Option aI}{h:Hf}{n:K}{Q:V->Hf->K->Prop}
def qA(u:List Nd):Int:=et [if decide ((2000:Int)<(u.length:Nat))=true then 4 else 0,if decide (60<tN u)=true then 24 else 0]
def bE(l:List Bi)(x:Bi)(i:Nat):Int:=et [if (!lf x.1)=true then 6 else 0,if (my x.1 (l.take i)).isSome=true then 7 else 0,dn x.2]
def mA(l:List Bi):List Bi->Nat->Int
 | [],_=>0
 | x::r,i=>if bE l x i≠0 then bE l x i else mA l r (i+1)
def sE(F:Nat)(ts:List Nd)(l:List Bi):Int:=
 let q:=et [dn ts,if decide ((100:Int)<(l.length:Nat))=true then 5 else 0]
 if q≠0 then q else if mA l l 0≠0 then mA l l 0 else if 2000<KS ts l then 4 else qA (put F ts.length ts l)
def sV(F:Nat)(ts:List Nd)(l:List Bi):List Nd:=if sE F ts l=0 then put F ts.length ts l else []
def alb(s:S)(l:List Bi):(my s l).isSome=decide (0<=vG s l 0):=by
 rcases Fl s l 0 with ⟨h1,h2⟩ | ⟨k,h1,a,h2⟩
 ·rw[h1,h2];decide
 ·rw[h1,h2];simp
def TP:∀{l:List Bi} {ms:List V} (hm:ms.length=l.length) (i:Nat),(iE l ms).take (i*2)=iE (l.take i) (ms.take i)
 | [],[],_,i=>by simp[iE]
 | [],_::_,hm,_=>by simp at hm
 | x::l,[],hm,_=>by simp at hm
 | x::l,m::ms,hm,0=>by simp[iE]
 | x::l,m::ms,hm,i+1=>by rw[show(i+1)*2=i*2+2 by omega];simp only[iE,mD,TP (show ms.length=l.length by simpa using hm) i]
def TQ{v:V}{l:List Bi}{ms:List V}(hm:ms.length=l.length)(ht:∀i (hi:i<l.length),aZ h n (ms[i]'(by omega)) l[i].2){i:Nat}(hi:i<=l.length)(a:κ h n 2 v (i - 0) (((iE l ms).drop (0*2)).take ((i - 0)*2))):dZ h n v (l.take i):=by
 rw[Nat.zero_mul,gb,mF,TP hm]at a;have hl:(l.take i).length=i:=by simp;omega
 refine⟨ms.take i,by simp;omega,by rw[hl];exact a,λj hj=>?_⟩;rw[List.getElem_take,List.getElem_take];exact ht j (by omega)
def w46(a:fh C){t:V}{ts:List Nd}(ht:aZ h n t ts)(hb:Bd ts)(c:xE ts)(e:∀h' n',Ext h n h' n'->aZ h' n' t ts->Q (.u [if qA ts=0 then t else .ns,.i .i64 (qA ts)]) h' n'):ν C (.f 46 [] []) [t] h n Q:=by
 refine ν.go a.f46 U ?_;obtain⟨cs,hs⟩:=ht.sl;have hlen:=hb.len;refine ε<|γ U<|γ U<|δ ?_;refine θ<|ε<|γ U<|al U hs<|bC U U<|ψ U U<|mU a.toCd.f42<|γ U<|ψ U U<|RL a.toCd ht (by omega) c.1 hb.gw (λj hj k d=>⟨(c.2 j hj k d).2,(c.2 j hj k d).1⟩) <| λh1 n1 g=>bC U U<|ψ U U<|mU a.toCd.f42<|eg U <| λh2 m q o p=>ψ U U<|Bq a.toCd.f41 (l:=[if decide ((2000:Int)<(ts.length:Nat))=true then 4 else 0,if decide (60<tN ts)=true then 24 else 0]) (κ.whole (len:=2) (by omega) o rfl) (by simp)<|γ U<|δ ?_
 have x:=g.trans p;have b:=e h2 m x (ht.ext x);refine ε<|γ U<|dR U U<|δ ?_;by_cases h0:qA ts=0
 ·refine ae U (by show(!decide (qA ts=0))=false;simp[h0])<|Ω ?_;rw[ao h0,h0]at b;refine ε<|γ U<|γ U<|γ U<|δ (Γ ⟨_,rfl,b⟩)
 ·refine ah U (by show(!decide (qA ts=0))=true;simp[h0]) ?_;rw[Θ h0]at b;refine ε<|γ U<|γ U<|γ U<|δ (Γ ⟨_,rfl,b⟩)
def w54(a:fh C){t:V}{ts:List Nd}(ht:aZ h n t ts)(hb:Bd ts)(b:xE ts)(e:∀h' n',Ext h n h' n'->Q (.i .i64 (qA ts)) h' n'):ν C (.f 54 [] []) [t] h n Q:=by
 refine ν.go a.f54 U ?_;obtain⟨cs,hs⟩:=ht.sl;have hlen:=hb.len;have hp:=b.1;have g:(dl ts ts.length)[ts.length - 1]'(by rw[lV];omega)=tN ts:=by rw[←Bv (by rw[lV];omega)];rfl
 refine ε<|γ U<|δ ?_;refine ε<|γ U<|al U hs<|bC U U<|ψ U U<|lF a.toCd<|γ U<|al U hs<|bC U U<|γ U<|ζ U (by simp;omega)<|γ U<|ζ U (by simp;omega)<|ψ U U<|R9 a.toCd ht (by omega) hb.gw (λj hj k c=>⟨(b.2 j hj k c).2,(b.2 j hj k c).1⟩) <| λr h1 n1 m d=>ζ U (by simp;omega)<|γ U<|ζ U (by simp;omega)<|al U hs<|ζ U (by simp;omega)<|jR U U ((show(ts.length:Int) - 1=((ts.length - 1:Nat):Int) by omega)) ⟨by omega,by omega⟩<|ζ U (by simp;omega)<|aB U U d (by rw[lV];omega)<|ζ U (by simp;omega)<|ξ U ((by have:=d.get (i:=ts.length - 1) (by rw[lV];omega) 1;rw[g]at this;exact this))<|ζ U (by simp;omega)<|bC U U<|aU U (by simp;omega) U<|ψ U U<|lF a.toCd<|eg U <| λh2 o s p q=>ψ U U<|zt a.toCd.f48 (l:=[if decide ((2000:Int)<(ts.length:Nat))=true then 4 else 0,if decide (60<tN ts)=true then 24 else 0]) (κ.whole (len:=2) (by omega) p rfl) (by simp)<|γ U<|δ ?_
 exact Γ ⟨_,rfl,e h2 o (m.trans q)⟩
end
section
variable {C:Nat->Option aI}{h:Hf}{n:K}{Q:V->Hf->K->Prop}
def K6{l r:List Bi}{x:Bi}{i:Nat}:mA l (x::r) i=if bE l x i≠0 then bE l x i else mA l r (i+1):=rfl
def alc(f:fh C){t vl:V}{l:List Bi}(L:Gl h n)(hl:dZ h n vl l)(gH:l.length<100000)(hb:∀b∈l,Bd b.2/\b.1.length<10000000){Q1:Ex->Env->Hf->K->Prop}
 (hR:∀h' n' E',Ext h n h' n'->mA l l 0≠0->ρ [(k4,.ns),(k5,.i .i64 (mA l l 0))] E'->Q1 .ret E' h' n')
 (M:∀h' n' E',Ext h n h' n'->mA l l 0=0->ρ [(k0,t),(k1,vl)] E'->Q1 .normal E' h' n'):
 ∀(r i:Nat) (h':Hf) (n':K),l.length - i=r->i<=l.length->Ext h n h' n'->mA l l 0=mA l (l.drop i) i->WC C acX [(k0,t),(k1,vl),(LX,vl),(VU,iN l.length),(VV,iN i)] h' n' (blk 0 Q1):=by
 intro r
 induction r with
 | zero=>
  intro i h' n' N hi e hs;have:i=l.length:=by omega
  subst this;rw[jw]at hs;refine ax ?_;refine ε<|ay U U<|δ ?_;exact θ<|ae U (by simp)<|aJ (M h' n' _ e hs (ρ.rf U))
 | succ r ih=>
  intro i h' n' N hi e hs;have o:i<l.length:=by omega
  have w:=hl.ext e;obtain⟨ms,hm,y,O⟩:=id w;obtain⟨m,P,tm⟩:=w.at o;obtain⟨R,kT⟩:=hb _ (bK o);rw[eo o]at hs;have S:aD [st l[i].1,m]=true:=by simp only[aD,tm.one];rfl
  refine ax ?_;refine ε<|ay U U<|δ ?_;refine θ<|ah U (by simp;omega)<|Ω ?_;refine θ<|aj<|ε<|γ U<|aB U U y o<|ξ U P<|bA <| λh2 z dS T W=>γ U<|aH U U T (cj (l:=[.s 0 0,.ns]) U U S) <| λv X b3=>δ ?_;have b3:bm n' h2 v:=b3;have x3:Ext h' n' v z:=W.ab b3 (φ _);have A:Cl v z n' [st l[i].1,m] 38:=⟨by omega,X⟩;refine cX<|ak U<|ak U<|A7 U (y.ext x3) U U (by omega) (show i<=_ by omega) <| λv4 Y l4=>bG U<|aC U (A.ld U _) U (fg _ _)<|aY U U<|Xa f (TQ hm (λj hj=>(O j hj).ext x3) hi Y) (by simp;omega) <| λs mm Z B D im=>ak U<|yq U U<|yq U U<|ux <| λh6 q jl a6 e6=>eT U U a6 (cj (l:=[.s 0 0,.ns]) (cs:=[st s,mm]) U U (by simp only[aD,im.one];rfl)) <| λk a7 b7=>ak U<|bU (by simp[AG,jD,mn,Nat.testBit]) ?_;have b7:bm B h6 k:=b7;have E:Ext Z B k q:=e6.ab b7 (φ _);have F:Cl k q n' [st l[i].1,m] 38:=(A.ext D).ext E;have u:=(x3.trans D).trans E;have z7:=u.1;have G:=tm.ext u;obtain⟨ts7,I⟩:=G.sl;have l80:∀{H:Hf},Ag q k H->bj H false 1 (.p n' (0+0))=some (st l[i].1):=λag=>(F.ext (ag.x (φ _))).ld U _;have c:∀{H:Hf},Ag q k H->bj H false 1 (.p n' (0+1))=some m:=λag=>(F.ext (ag.x (φ _))).ld U _;refine cX<|bG U<|aC U (l80 (Ag.refl _ _)) U (fg _ _)<|aY U U<|Wn f.toCd kT <| λh8 n8 a=>nQ U<|aY U U<|mU f.toCd.f42<|ak U<|aY U U<|mU f.toCd.f42<|bG U<|aC U (c a.ag) (I.below a.1) (κ.cH I)<|aY U U<|WJ f.toCd R ((L.ext e).ext (u.trans a)) (G.ext a) <| λh9 g d=>lP U <| λgP dD E8 oE fI=>aY U U<|Bq f.toCd.f41 (l:=[if (!lf l[i].1)=true then 6 else 0,if (my l[i].1 (l.take i)).isSome=true then 7 else 0,dn l[i].2]) (κ.whole (len:=3) (by omega) oE rfl) (by simp)<|ak U<|bU (⟨⟨ω (by simp[Nat.testBit]),ω (by simp[Nat.testBit]),bH (c (a.ag.hp g none (dU a.1 d.1))) (c (a.ag.hp g none (dU a.1 d.1))),bH (c (a.ag.hp g none (dU a.1 d.1))) (c (a.ag.hp g none (dU a.1 d.1))),bH (c ((Ag.refl _ _).hp g none (dU a.1 d.1))) (c (a.ag.hp g none (dU a.1 d.1))),trivial⟩,⟨ω (by simp[Nat.testBit]),ω (by simp[Nat.testBit]),ω (by simp[Nat.testBit]),ω (by simp[Nat.testBit]),ω (by simp[Nat.testBit]),trivial⟩,trivial⟩) ?_
  have J:=((e.trans u).trans (a.trans d)).trans fI;refine ε<|γ U<|dR U U<|δ ?_;have hx:bE l l[i] i=et [if (!lf l[i].1)=true then 6 else 0,if (my l[i].1 (l.take i)).isSome=true then 7 else 0,dn l[i].2]:=rfl
  rw[←hx];rw[K6]at hs;by_cases h0:bE l l[i] i=0
  ·rw[Θ (by simp[h0])]at hs;refine ae U (by simp[h0])<|Ω ?_;refine aA<|aX U U ⟨by omega,by omega⟩<|γ U<|δ ?_;exact χ (ih (i+1) _ _ (by omega) (by omega) J hs) (ρ.rf U)
  ·rw[ao h0]at hs;refine ah U (by simp[h0]) ?_;refine ε<|γ U<|γ U<|γ U<|δ (Γ (hR _ _ _ J (by rw[hs];exact h0) ⟨rfl,by rw[hs];rfl,trivial⟩))
def w12(c:fh C){t vl:V}{ts:List Nd}{l:List Bi}{F N M:Nat}(B:2000000<=F)(q:Gl h n)(ht:aZ h n t ts)(hl:dZ h n vl l)(D:l.length<100000)(r:Bd ts)(hb:∀b∈l,Bd b.2/\b.1.length<10000000)(hp:dn ts=0->mA l l 0=0->PC ts.length N M ts l)
 (d:∀v h' n',Ext h n h' n'->aZ h' n' v (sV F ts l)->Q (.u [v,.i .i64 (sE F ts l)]) h' n'):ν C (.f 12 [] []) [t,vl] h n Q:=by
 obtain⟨cs,hs⟩:=hl.sl;obtain⟨e,he⟩:∃e,et [dn ts,if decide ((100:Int)<(l.length:Nat))=true then 5 else 0]=e:=⟨_,rfl⟩
 refine ν.go c.f12 U ?_;refine ε<|γ U<|γ U<|δ ?_;refine θ<|ε<|γ U<|ψ U U<|WJ c.toCd r q ht <| λh1 n1 w=>γ U<|al U (hs.ext w)<|bC U U<|ψ U U<|mU c.toCd.f42<|eg U <| λh2 x W E G=>ψ U U<|Bq c.toCd.f41 (l:=[dn ts,if decide ((100:Int)<(l.length:Nat))=true then 5 else 0]) (κ.whole (len:=2) (by omega) E rfl) (by simp)<|γ U<|δ ?_
 have x2:=w.trans G;rw[he];refine ε<|γ U<|dR U U<|δ ?_;by_cases h0:e=0
 case neg=>
  refine ah U (by simp[h0]) ?_;have a:sE F ts l=e:=by unfold sE;rw[he];simp[h0]
  refine ε<|γ U<|γ U<|γ U<|δ (Γ ⟨_,rfl,by have:=d .ns h2 x x2 (by unfold sV;rw[a,Θ h0];exact aZ.nil _ _);rw[a]at this;exact this⟩)
 refine ae U (by simp[h0])<|Ω ?_;subst h0;have hf:dn ts=0:=by
  by_cases g:dn ts=0
  ·exact g
  ·rw[et,Θ g]at he;exact absurd he g
 refine θ<|ε<|γ U<|al U (hs.ext x2)<|γ U<|δ ?_;refine aj<|χ (alc c (t:=t) (q.ext x2) (hl.ext x2) D hb ?_ ?_ _ 0 h2 x rfl (by omega) (Ext.refl _ _) U) (ρ.rf U)
 ·intro y z E3 x3 A s;have a:sE F ts l=mA l l 0:=by unfold sE;rw[he];simp[A]
  refine⟨_,by show j6 [.t k4,.t k5] _ _=_;simp only[j6,ph,rp,s.1,s.2.1];rfl,?_⟩;have:=d .ns y z (x2.trans x3) (by unfold sV;rw[a,Θ A];exact aZ.nil _ _);rw[a]at this;exact this
 intro y z E3 x3 k s;refine bS s ?_;have p:=hp hf k;have m:=x2.trans x3;refine θ<|ε<|γ U<|γ U<|ψ U U<|w45 c (ht.ext m) (hl.ext m) r p.rt.pos p.rt.ord (λb H=>(hb b H).1.len) (by omega) <| λI J L=>bC U U<|δ ?_;have j:=m.trans L;by_cases o:2000<KS ts l
 ·refine ah U (by simpa using o) ?_;have a:sE F ts l=4:=by unfold sE;rw[he];simp[k,o]
  refine ε<|γ U<|γ U<|δ (Γ ⟨_,rfl,by have:=d .ns I J j (by unfold sV;rw[a,Θ (by decide)];exact aZ.nil _ _);rw[a]at this;exact this⟩)
 refine ae U (by simp;omega)<|Ω ?_;have a:sE F ts l=qA (put F ts.length ts l):=by unfold sE;rw[he];simp[k,o]
 have ps:=xg (F:=F) p;refine ε<|γ U<|γ U<|ψ U U<|w47 c B ts.length (ht.ext j) (hl.ext j) p <| λv X Y O tg=>ψ U U<|w46 c tg.t ps.1 ps.2.1 <| λP R S T=>bF U U<|bF U U<|γ U<|γ U<|δ (Γ ⟨_,rfl,?_⟩);have:=d (if qA (put F ts.length ts l)=0 then v else .ns) P R ((j.trans O).trans S) (by
  unfold sV;rw[a];split
  ·exact T
  ·exact aZ.nil _ _)
 rw[a]at this;exact this
end
section
variable {C:Nat->Option aI}{h:Hf}{n:K}{Q:V->Hf->K->Prop}
def alf(f:fh C){t vl:V}{l:List Bi}(hl:dZ h n vl l)(E:l.length<100000)(hb:∀b∈l,Bd b.2/\b.1.length<10000000){Q1:Ex->Env->Hf->K->Prop}
 (hR:∀h' n' E',Ext h n h' n'->mA l l 0≠0->ρ [(k4,.ns),(k5,.i .i64 (mA l l 0))] E'->Q1 .ret E' h' n')
 (u:∀h' n' E',Ext h n h' n'->mA l l 0=0->ρ [(k0,t),(k1,vl)] E'->Q1 .normal E' h' n'):
 ∀(r i:Nat) (h':Hf) (n':K),l.length - i=r->i<=l.length->Ext h n h' n'->mA l l 0=mA l (l.drop i) i->WC C ac9 [(k0,t),(k1,vl),(k7,iN i)] h' n' (blk 0 Q1):=by
 intro r
 induction r with
 | zero=>
  intro i h' n' v hi e hs;have:i=l.length:=by omega
  subst this;rw[jw]at hs;obtain⟨cs,d⟩:=(hl.ext e).sl;refine ax ?_;refine θ<|ε<|γ U<|γ U<|al U d<|ay U U<|δ ?_;exact ae U (by simp)<|aJ (u h' n' _ e hs (ρ.rf U))
 | succ r ih=>
  intro i h' n' v hi e hs;have g:i<l.length:=by omega
  have k:=hl.ext e;obtain⟨ms,hm,d,w⟩:=id k;obtain⟨m,o,tm⟩:=k.at g;obtain⟨F,q⟩:=tm.sl;obtain⟨y,kT⟩:=hb _ (bK g);rw[eo g]at hs;refine ax ?_;refine θ<|ε<|γ U<|γ U<|al U d<|ay U U<|δ ?_;refine ah U (by simp;omega)<|Ω ?_;have j:∀{H:Hf},Ag n' h' H->bj H false 1 (.p vl.blk (vl.off+i*2+0))=some (st l[i].1):=λag=>ka (((ag.x (φ _)).ld (d.pk (by omega)) true 2 _).trans o) U;have l1:∀{H:Hf},Ag n' h' H->bj H false 1 (.p vl.blk (vl.off+i*2+1))=some m:=λag=>ka (((ag.x (φ _)).ld (d.pk (by omega)) true 2 _).trans o) U;refine θ<|aj<|cX<|ak U<|ak U<|cK U U d g<|bG U<|aC U (j (Ag.refl _ _)) U (fg _ _)<|aY U U<|Wf f.toCd kT<|nQ U<|aY U U<|lF f.toCd<|ak U<|ak U<|A7 U d U U (by omega) (show i<=_ by omega) <| λG z l4=>ak U<|ak U<|cK U U d g<|bG U<|aC U (j (Ag.refl _ _)) U (fg _ _)<|aY U U<|W9 f (TQ hm w hi z) (by simp;omega)<|yo U U<|aY U U<|lF f.toCd<|ak U<|ak U<|cK U U d g<|bG U<|aC U (l1 (Ag.refl _ _)) (q.below (φ _)) (κ.cH q)<|aY U U<|Wi f.toCd y tm <| λI c a=>lP U <| λJ L M A B=>aY U U<|zt f.toCd.f48 (l:=[if (!lf l[i].1)=true then 6 else 0,if decide (0<=vG l[i].1 (l.take i) 0)=true then 7 else 0,dn l[i].2]) (κ.whole (len:=3) (by omega) A rfl) (by simp)<|ak U<|bU (⟨⟨ω (by simp[Nat.testBit]),ω (by simp[Nat.testBit]),bH (l1 ((Ag.refl _ _).hp c none a.1)) (l1 ((Ag.refl _ _).hp c none a.1)),bH (l1 ((Ag.refl _ _).hp c none a.1)) (l1 ((Ag.refl _ _).hp c none a.1)),bH (l1 ((Ag.refl _ _).hp c none a.1)) (l1 ((Ag.refl _ _).hp c none a.1)),bH (l1 ((Ag.refl _ _).hp c none a.1)) (l1 ((Ag.refl _ _).hp c none a.1)),trivial⟩,⟨ω (by simp[Nat.testBit]),ω (by simp[Nat.testBit]),ω (by simp[Nat.testBit]),ω (by simp[Nat.testBit]),bH (j ((Ag.refl _ _).hp c none a.1)) (j ((Ag.refl _ _).hp c none a.1)),bH (j ((Ag.refl _ _).hp c none a.1)) (j ((Ag.refl _ _).hp c none a.1)),trivial⟩,⟨ω (by simp[Nat.testBit]),ω (by simp[Nat.testBit]),ω (by simp[Nat.testBit]),ω (by simp[Nat.testBit]),ω (by simp[Nat.testBit]),ω (by simp[Nat.testBit]),trivial⟩,trivial⟩) ?_
  have s:=(e.trans a).trans B;refine ε<|γ U<|dR U U<|δ ?_;have D:bE l l[i] i=et [if (!lf l[i].1)=true then 6 else 0,if decide (0<=vG l[i].1 (l.take i) 0)=true then 7 else 0,dn l[i].2]:=by unfold bE;rw[alb]
  rw[←D];rw[K6]at hs;by_cases h0:bE l l[i] i=0
  ·rw[Θ (by simp[h0])]at hs;refine ae U (by simp[h0])<|Ω ?_;refine aA<|γ U<|aX U U ⟨by omega,by omega⟩<|γ U<|δ ?_;exact χ (ih (i+1) _ _ (by omega) (by omega) s hs) (ρ.rf U)
  ·rw[ao h0]at hs;refine ah U (by simp[h0]) ?_;refine ε<|γ U<|γ U<|γ U<|δ (Γ (hR _ _ _ s (by rw[hs];exact h0) ⟨rfl,by rw[hs];rfl,trivial⟩))
def w14(c:fh C){t vl:V}{ts:List Nd}{l:List Bi}{F N M:Nat}(G:2000000<=F)(ht:aZ h n t ts)(hl:dZ h n vl l)(H:l.length<100000)(q:Bd ts)(hb:∀b∈l,Bd b.2/\b.1.length<10000000)(hp:dn ts=0->mA l l 0=0->PC ts.length N M ts l)
 (d:∀v h' n',Ext h n h' n'->aZ h' n' v (sV F ts l)->Q (.u [v,.i .i64 (sE F ts l)]) h' n'):ν C (.f 14 [] []) [t,vl] h n Q:=by
 obtain⟨cs,hs⟩:=hl.sl;obtain⟨e,he⟩:∃e,et [dn ts,if decide ((100:Int)<(l.length:Nat))=true then 5 else 0]=e:=⟨_,rfl⟩
 refine ν.go c.f14 U ?_;refine ε<|γ U<|γ U<|δ ?_;refine θ<|ε<|γ U<|ψ U U<|Wi c.toCd q ht <| λh1 n1 r=>γ U<|al U (hs.ext r)<|bC U U<|ψ U U<|lF c.toCd<|eg U <| λh2 w T I J=>ψ U U<|zt c.toCd.f48 (l:=[dn ts,if decide ((100:Int)<(l.length:Nat))=true then 5 else 0]) (κ.whole (len:=2) (by omega) I rfl) (by simp)<|γ U<|δ ?_
 have x2:=r.trans J;rw[he];refine ε<|γ U<|dR U U<|δ ?_;by_cases h0:e=0
 case neg=>
  refine ah U (by simp[h0]) ?_;have a:sE F ts l=e:=by unfold sE;rw[he];simp[h0]
  refine ε<|γ U<|γ U<|γ U<|δ (Γ ⟨_,rfl,by have:=d .ns h2 w x2 (by unfold sV;rw[a,Θ h0];exact aZ.nil _ _);rw[a]at this;exact this⟩)
 refine ae U (by simp[h0])<|Ω ?_;subst h0;have hf:dn ts=0:=by
  by_cases g:dn ts=0
  ·exact g
  ·rw[et,Θ g]at he;exact absurd he g
 refine θ<|ε<|γ U<|δ ?_;refine aj<|χ (alf c (t:=t) (hl.ext x2) H hb ?_ ?_ _ 0 h2 w rfl (by omega) (Ext.refl _ _) U) (ρ.rf U)
 ·intro x y E3 x3 z s;have a:sE F ts l=mA l l 0:=by unfold sE;rw[he];simp[z]
  refine⟨_,by show j6 [.t k4,.t k5] _ _=_;simp only[j6,ph,rp,s.1,s.2.1];rfl,?_⟩;have:=d .ns x y (x2.trans x3) (by unfold sV;rw[a,Θ z];exact aZ.nil _ _);rw[a]at this;exact this
 intro x y E3 x3 k s;refine bS s ?_;have p:=hp hf k;have m:=x2.trans x3;refine θ<|ε<|γ U<|γ U<|ψ U U<|w52 c (ht.ext m) (hl.ext m) q p.rt.ord (λb L=>(hb b L).1.len) (by omega) <| λO P R=>bC U U<|δ ?_;have j:=m.trans R;by_cases o:2000<KS ts l
 ·refine ah U (by simpa using o) ?_;have a:sE F ts l=4:=by unfold sE;rw[he];simp[k,o]
  refine ε<|γ U<|γ U<|δ (Γ ⟨_,rfl,by have:=d .ns O P j (by unfold sV;rw[a,Θ (by decide)];exact aZ.nil _ _);rw[a]at this;exact this⟩)
 refine ae U (by simp;omega)<|Ω ?_;have a:sE F ts l=qA (put F ts.length ts l):=by unfold sE;rw[he];simp[k,o]
 have ps:=xg (F:=F) p;refine ε<|γ U<|γ U<|ψ U U<|w53 c G ts.length (ht.ext j) (hl.ext j) p <| λv W X S tg=>γ U<|δ ?_;refine θ<|ε<|γ U<|ψ U U<|w54 c tg.t ps.1 ps.2.1 <| λA B D=>γ U<|δ ?_;have E:=(j.trans S).trans D;refine ε<|γ U<|dR U U<|δ ?_;by_cases h0:qA (put F ts.length ts l)=0
 ·refine ae U (by simp[h0])<|Ω ?_;refine ε<|γ U<|γ U<|γ U<|δ (Γ ⟨_,rfl,?_⟩);have:=d v A B E (by unfold sV;rw[a,ao h0];exact tg.t.ext D);rw[a,h0]at this;exact this
 ·refine ah U (by simp[h0]) ?_;refine ε<|γ U<|γ U<|γ U<|δ (Γ ⟨_,rfl,?_⟩);have:=d .ns A B E (by unfold sV;rw[a,Θ h0];exact aZ.nil _ _);rw[a]at this;exact this
end
section
variable {C:Nat->Option aI}{h:Hf}{n:K}{Q:V->Hf->K->Prop}
def tS(b:Bi):Bool:=kj b.2&&!decide (210<b.1.length)
def w7(j:fh C){v:V}{l:List Bi}(hl:dZ h n v l)(hlen:l.length<10000000)(hb:∀b∈l,zF b.2)(k:∀h' n',Ext h n h' n'->Q (.b (l.all tS&&decide (l.length<=4))) h' n'):ν C (.f 7 [] []) [v] h n Q:=by
 refine ν.go j.f7 U ?_;obtain⟨cs,hs⟩:=hl.sl;refine ε<|γ U<|δ ?_;refine θ<|ε<|γ U<|al U hs<|γ U<|δ ?_;have loop:∀(r i:Nat) (h':Hf) (n':K),l.length - i=r->i<=l.length->Ext h n h' n'->l.all tS=(l.drop i).all tS->WC C Qb [(k0,v),(k5,v),(k6,iN l.length),(k7,iN i)] h' n' (blk 0 (sq C Qc (fq [.t k2] Q))):=by
  intro r
  induction r with
  | zero=>
   intro i h' n' p hi e a;have:i=l.length:=by omega
   subst this;rw[jw]at a;refine ax ?_;refine ε<|ay U U<|δ ?_;refine θ<|ae U (by simp)<|aJ ?_;refine ε<|γ U<|al U (hs.ext e)<|mS U U<|γ U<|δ (Γ ⟨_,rfl,?_⟩);have:=k h' n' e;rw[a]at this;have q:decide (((l.length:Nat):Int)<=4)=decide (l.length<=4):=decide_eq_decide.2 (by omega);rw[q];exact this
  | succ r ih=>
   intro i h' n' p hi e a;have g:i<l.length:=by omega
   obtain⟨m,hm,tm⟩:=(hl.ext e).at g;rw[eo g,List.all_cons]at a;have u:aD [st l[i].1,m]=true:=by simp only[aD,tm.one];rfl
   refine ax ?_;refine ε<|ay U U<|δ ?_;refine θ<|ah U (by simp;omega)<|Ω ?_;refine θ<|aj<|ε<|aB U U (hs.ext e) g<|ξ U hm<|bA <| λh2 d B x y=>aH U U x (cj (l:=[.s 0 0,.ns]) U U u) <| λc z b3=>δ ?_;have b3:bm n' h2 c:=b3;have x3:Ext h' n' c d:=y.ab b3 (φ _);have c4:Cl c d n' [st l[i].1,m] 38:=⟨by omega,z⟩;have o:=hb _ (bK g);have bad:tS l[i]=false->∀{E},WC C acK E c d (blk 1 (sq C acL (sq C (.loop Im) (blk 0 (sq C Qc (fq [.t k2] Q)))))):=by intro A E;rw[A,xJ]at a;refine ε<|γ U<|δ (Γ ⟨_,rfl,by have:=k c d (e.trans x3);rw[a]at this;exact this⟩)
   by_cases h1:kj l[i].2=true
   case neg=>
    refine ε<|σ U<|ξ U (c4.ld U _)<|ψ U U<|w6 j.toCd (tm.ext x3) o<|bZ U<|γ U<|μ U (by simp[h1])<|μ U (by simp[h1])<|μ U (by simp[h1])<|μ U (by simp[h1])<|aU U (by simp[h1]) U<|δ ?_;exact ah U U (bad (by simp[tS,h1]))
   refine ε<|σ U<|ξ U (c4.ld U _)<|ψ U U<|w6 j.toCd (tm.ext x3) o<|bZ U<|γ U<|ζ U (by simp[h1])<|σ U<|ζ U (by simp[h1])<|ξ U (c4.ld U _)<|ζ U (by simp[h1])<|bN U<|ζ U (by simp[h1])<|bC U U<|aL U (by simp[h1]) U<|δ ?_;by_cases h2:210<l[i].1.length
   ·exact ah U (by simp;omega) (bad (by simp[tS,h2]))
   refine ae U (by simp;omega)<|Ω ?_;rw[show tS l[i]=true by simp[tS,h1,h2],xM]at a;refine aA<|aX U U ⟨by omega,by omega⟩<|γ U<|δ ?_;exact χ (ih (i+1) c d (by omega) (by omega) (e.trans x3) a) (ρ.rf U)
 exact aj<|χ (loop _ 0 h n rfl (by omega) (Ext.refl _ _) U) (ρ.rf U)
def xj(ei:Nat)(h0:Hf)(n0:K)(h:Hf)(n:K)(v:V)(l:List Bi)(ms:List V):Prop:=
 ∃hm:ms.length=l.length,Gr h0 n0 h n ei 2 v l.length (iE l ms)/\∀j (h2:j<l.length),v≠.ns/\aZ h v.blk (ms[j]'(by omega)) l[j].2
section
variable {ei:Nat}{h0 h4 h5:Hf}{n0 n4 n5:K}{v v5 w:V}{l:List Bi}{ms:List V}{t:List Nd}{s:S}
def xj.nil(e:Ext h0 n0 h n):xj ei h0 n0 h n .ns [] []:=⟨rfl,Gr.ns e,λj h1=>by simp at h1⟩
def xj.bi(a:xj ei h0 n0 h n v l ms):dZ h n v l:=by obtain⟨h1,h2,b⟩:=a;refine⟨ms,h1,h2.sl,λi c=>?_⟩;have:=b i c;exact this.2.ext (n':=n) ⟨h2.lt.elim (λe=>absurd e this.1) eu,λ_ _=>rfl⟩
def xj.app(a:xj ei h0 n0 h n v l ms)(x:Ext h n h4 n4)(ht:aZ h5 n4 w t)(o5:ea h5 ei 2 v5 (l.length+1) (iE l ms++[st s,w]))(c:v5.blk=n4)(f:n5.num=n4.num+1)(d:∀b:K,b.num<n4.num->(v=.ns\/b.num≠v.blk.num)->h5 b=h4 b):xj ei h0 n0 h5 n5 v5 (l++[(s,t)]) (ms++[w]):=by
 obtain⟨h1,h2,g⟩:=a;have i:=(h2.on x).app o5 c f d;have m:v5≠.ns:=by intro e;have:=o5.nil e;omega
 refine⟨by simp[h1],by rw[gp,Tk h1];exact i,λj o=>⟨m,?_⟩⟩;by_cases hj:j<l.length
 ·rw[List.getElem_append_left (by omega),List.getElem_append_left hj];obtain⟨p,q⟩:=g j hj;have u:=h2.lt.resolve_left p;have:=x.1;refine q.ext ⟨by rw[c];omega,λk y=>?_⟩;rw[d k (by omega) (Or.inr (by omega)),x.2 k (by omega)]
 ·have r:j=l.length:=by simp at o;omega
  subst r;rw[List.getElem_append_right (by omega),List.getElem_append_right (by omega)];simp only[h1,lL,nz,c];exact ht
end
def w13(q:fh C){v:V}{l:List Bi}(hl:dZ h n v l)(hlen:l.length<1000000)(hb:∀b∈l,Bd b.2)(D:∀v' h' n',Ext h n h' n'->dZ h' n' v' l->Q v' h' n'):ν C (.f 13 [] []) [v] h n Q:=by
 refine ν.go q.f13 U ?_;obtain⟨cs,hs⟩:=hl.sl;refine ε<|γ U<|δ ?_;refine ε<|γ U<|δ ?_;refine θ<|ε<|γ U<|al U hs<|γ U<|δ ?_;have loop:∀(r i:Nat) (w:V) (ms:List V) (h':Hf) (n':K),l.length - i=r->i<=l.length->xj 38 h n h' n' w (l.take i) ms->WC C acV [(k3,w),(k6,v),(k7,iN l.length),(k8,iN i)] h' n' (blk 0 (sq C acW (fq [.t k2] Q))):=by
  intro r
  induction r with
  | zero=>
   intro i w ms h' n' E hi g;have:i=l.length:=by omega
   subst this;rw[eN]at g;refine ax ?_;refine ε<|ay U U<|δ ?_;refine θ<|ae U (by simp)<|aJ ?_;refine ε<|γ U<|γ U<|δ (Γ ⟨_,rfl,D w h' n' g.2.1.ext g.bi⟩)
  | succ r ih=>
   intro i w ms h' n' E hi g;have e:i<l.length:=by omega
   have c:=g.2.1;have tA:(l.take i).length=i:=by simp;omega
   obtain⟨m,hm,tm⟩:=(hl.ext c.ext).at e;have F:aD [st l[i].1,m]=true:=by simp only[aD,tm.one];rfl
   refine ax ?_;refine ε<|ay U U<|δ ?_;refine θ<|ah U (by simp;omega)<|Ω ?_;refine θ<|aj<|ε<|aB U U (hs.ext c.ext) e<|ξ U hm<|bA <| λh2 k dS G I=>aH U U G (cj (l:=[.s 0 0,.ns]) U U F) <| λj J b3=>δ ?_;have b3:bm n' h2 j:=b3;have x3:Ext h' n' j k:=I.ab b3 (φ _);have c5:Cl j k n' [st l[i].1,m] 38:=⟨by omega,J⟩;have u:=tm.ext x3;obtain⟨tcs,y⟩:=u.sl;have o:∀{H:Hf},Ag k j H->bj H false 1 (.p n' (0+0))=some (st l[i].1):=λag=>(c5.ext (ag.x (φ _))).ld U _;refine nO<|ak U<|bG U<|aC U (o (Ag.refl _ _)) U (fg _ _)<|bG U<|aC U (c5.ld U _) (y.below (φ _)) (κ.cH y)<|aY U U<|w9g q.toCd u (hb _ (bK e)) <| λL h4 n4 a tg=>qi (EM rfl rfl rfl rfl tg.t.cells tg.t.one)<|lP (KW rfl (by simp only[aD,tg.t.one];rfl)) <| λh6 M jl N d=>Pe U ((((c.on x3).on a).on d).own) U (κ.whole (len:=1) (z:=2) (by omega) N rfl) (by omega) (by omega) (by omega) (by omega) (by simp only[aD,tg.t.one];rfl) ((((c.on x3).on a).on d).lt) <| λO A P R T W B=>ak U<|bU (⟨⟨ω (by simp[Nat.testBit]),ω (by simp[Nat.testBit]),trivial⟩,⟨ω (by simp[Nat.testBit]),bH (o ((Ag.refl _ _).hp n4 none a.1)) (o (a.ag.hp n4 none a.1)),trivial⟩,trivial⟩) ?_;have X:=c.lt;have z3:=x3.1;have z4:=a.1;have Y:=d.1;have Z:=(TG.skip (h':=A) (n':=M) tg (λb je dY=>(B b (by omega) (X.imp id λh=>by omega)).trans (d.2 b dY)) Y).t;have g7:=g.app ((x3.trans a).trans d) (s:=l[i].1) Z R T W B;refine aA<|aX U U ⟨by omega,by omega⟩<|γ U<|δ ?_;refine χ (ih (i+1) O (ms++[L]) A P (by omega) (by omega) ?_) (ρ.rf U);rw[fL e];exact g7
 exact aj<|χ (loop _ 0 .ns [] h n rfl (by omega) (xj.nil (Ext.refl _ _))) (ρ.rf U)
end
section
variable {C:Nat->Option aI}{h:Hf}{n:K}{Q:V->Hf->K->Prop}
def TR{ts:List Nd}(h:kj ts=true):jX 200 ts:=by simp only[kj,aK,mE]at h;intro x a;have:=h.2 x a;simp only[m6,BP,aK,ov,cg,aW,mE]at this;obtain⟨g1,_,_,_,c,b,d⟩:=this;refine⟨by omega,λv hv=>?_⟩;have:=b v hv;simp only[rJ,aK,ov,cg]at this;omega
def TS{ts:List Nd}(h:kj ts=true)(h2:ts.length<=2000):ts.length<=120:=by
 simp only[kj,aK]at h;by_cases a:120<ts.length
 ·have:ts.length=2001:=by simpa[a]using h.1
  omega
 ·omega
def Fy{a:Int}{l:List Int}(h:et (a::l)=0):a=0/\et l=0:=by
 unfold et at h;by_cases g:a=0
 ·rw[ao g]at h;exact⟨g,h⟩
 ·rw[Θ g]at h;exact absurd h g
def alg{l:List Bi}{x:Bi}{i:Nat}(h:bE l x i=0):dn x.2=0:=(Fy (Fy (Fy h).2).2).1
def TT{l:List Bi}:∀{r:List Bi} {i:Nat},mA l r i=0->∀x∈r,dn x.2=0
 | [],_,_,x,a=>by cases a
 | y::r,i,h,x,a=>by
  rw[K6]at h;by_cases g:bE l y i=0
  ·rw[Θ (by simp[g])]at h;rcases eO.1 a with rfl | a
   ·exact alg g
   ·exact TT h x a
  ·rw[ao g]at h;exact absurd h g
section
variable {ts:List Nd}{l:List Bi}
def TU(h:kj ts=true)(hl:l.all tS=true)(e:l.length<=4)(hf:dn ts=0)(hb:mA l l 0=0):PC ts.length 200 120 ts l:=by
 obtain⟨r,l2,_⟩:=Cc (Fe h) hf;have hlen:=TS h l2;rw[mE]at hl;have hs:∀b∈l,kj b.2=true:=λb a=>by have:=hl b a;simp only[tS,aK]at this;exact this.1
 have c:∀b∈l,Rt b.2/\b.2.length<=2000:=λb a=>by obtain⟨g1,d,_⟩:=Cc (Fe (hs b a)) (TT hb b a);exact⟨g1,d⟩
 exact⟨r,φ _,TR h,λb a=>(c b a).1,λb a=>TR (hs b a),λb a=>TS (hs b a) (c b a).2,by omega,by omega,by omega,by omega⟩
def alh{F:Nat}(h:kj ts=true)(hl:l.all tS=true)(c:l.length<=4):Bd (sV F ts l):=by
 unfold sV;by_cases h0:sE F ts l=0
 ·rw[ao h0];have a:dn ts=0/\mA l l 0=0:=by
   obtain⟨e,he⟩:∃e,et [dn ts,if decide ((100:Int)<(l.length:Nat))=true then 5 else 0]=e:=⟨_,rfl⟩
   unfold sE at h0;rw[he]at h0;by_cases g:e=0
   ·subst g;refine⟨(Fy he).1,?_⟩;by_cases b:mA l l 0=0
    ·exact b
    ·simp[b]at h0
   ·simp[g]at h0
  exact(xg (TU h hl c a.1 a.2)).1
 ·rw[Θ h0];exact Bd.of (by simp) (by simp)
end
def ali{j vl:V}{l:List Bi}(hl:dZ h n vl l)(hlen:l.length<1000000){Q1:Ex->Env->Hf->K->Prop}
 (t:∀w h' n' E',Ext h n h' n'->dZ h' n' w l->ρ [(k0,j),(k1,vl),(k9,w)] E'->Q1 .normal E' h' n'):
 ∀(r i:Nat) (w:V) (ms:List V) (h':Hf) (n':K),l.length - i=r->i<=l.length->xj 39 h n h' n' w (l.take i) ms->WC C acJ [(k0,j),(k1,vl),(k9,w),(k48,vl),(k49,iN l.length),(k50,iN i)] h' n' (blk 0 Q1):=by
 obtain⟨cs,hs⟩:=hl.sl;intro r
 induction r with
 | zero=>
  intro i w ms h' n' u hi g;have:i=l.length:=by omega
  subst this;rw[eN]at g;refine ax ?_;refine ε<|ay U U<|δ ?_;exact θ<|ae U (by simp)<|aJ (t w h' n' _ g.2.1.ext g.bi (ρ.rf U))
 | succ r ih=>
  intro i w ms h' n' u hi g;have d:i<l.length:=by omega
  have a:=g.2.1;have M:(l.take i).length=i:=by simp;omega
  obtain⟨m,v,tm⟩:=hl.at d;have hm:=(a.ext.ld (hs.pk (by omega)) true 2 _).trans v;have e:aD [st l[i].1,m]=true:=by simp only[aD,tm.one];rfl
  refine ax ?_;refine ε<|ay U U<|δ ?_;refine θ<|ah U (by simp;omega)<|Ω ?_;refine θ<|aj<|ε<|aB U U (hs.ext a.ext) d<|ξ U hm<|bA <| λh2 k N x y=>aH U U x (cj (l:=[.s 0 0,.ns]) U U e) <| λf A b3=>δ ?_;have b3:bm n' h2 f:=b3;have x3:Ext h' n' f k:=y.ab b3 (φ _);have o:Cl f k n' [st l[i].1,m] 38:=⟨by omega,A⟩;refine aA<|γ U<|σ U<|ξ U (o.ld U _)<|σ U<|ξ U (o.ld U _)<|ji (EM rfl rfl rfl rfl tm.cells tm.one)<|eg (KW rfl e) <| λO B P D c=>jF U (((a.on x3).on c).own) U (κ.whole (len:=1) (z:=2) (by omega) D rfl) (by omega) (by omega) (by omega) (by omega) e (((a.on x3).on c).lt) <| λE p F G H I q=>γ U<|δ ?_;have R:=a.lt;have S:=x3.1;have T:=c.1;have J:aZ p B m l[i].2:=tm.ext ⟨by have:=a.ext.1;omega,λb hb=>by have:=a.ext.1;rw[q b (by omega) (a.ge.imp id λg=>by omega),c.2 b (by omega),x3.2 b (by omega),a.ext.2 b hb]⟩;have L:=g.app (x3.trans c) (s:=l[i].1) J G H I q;refine aA<|aX U U ⟨by omega,by omega⟩<|γ U<|δ ?_;refine χ (ih (i+1) E (ms++[m]) p F (by omega) (by omega) ?_) (ρ.rf U);rw[fL d];exact L
def w3(a:fh C){t vl:V}{ts:List Nd}{l:List Bi}{F:Nat}(o:2000000<=F){G:Hf->K->Prop}(hlen:l.length<10000000)(p:zF ts)(x:∀b∈l,zF b.2)(y:∀{h n h' n'},G h n->Ext h n h' n'->G h' n')(d:∀{h n} {Q:V->Hf->K->Prop},G h n->Q (.b true) h n->ν C (.f 5 [] []) [] h n Q)
 (e:G h n)(q:Gl h n)(ht:aZ h n t ts)(hl:dZ h n vl l)(j:∀h' n',Q (.b true) h' n'):ν C (.f 3 [] []) [t,vl] h n Q:=by
 refine ν.go a.f3 U ?_;obtain⟨cs,sl⟩:=hl.sl;refine ε<|γ U<|δ ?_;by_cases h1:kj ts=true
 case neg=>
  refine θ<|ε<|ψ U U<|d e<|bZ U<|γ U<|ζ U (rfl)<|γ U<|ζ U (rfl)<|ψ U U<|w6 a.toCd ht p<|ζ U (rfl)<|bZ U<|aL U (rfl) U<|γ U<|μ U (by simp[h1])<|μ U (by simp[h1])<|μ U (by simp[h1])<|aU U (by simp[h1]) U<|δ ?_;refine ah U U ?_;refine ε<|ψ U U<|d e<|γ U<|δ (Γ ⟨_,rfl,j _ _⟩)
 refine θ<|ε<|ψ U U<|d e<|bZ U<|γ U<|ζ U (rfl)<|γ U<|ζ U (rfl)<|ψ U U<|w6 a.toCd ht p<|ζ U (rfl)<|bZ U<|aL U (rfl) U<|γ U<|ζ U (by simp[h1])<|γ U<|ζ U (by simp[h1])<|ψ U U<|w7 a hl hlen x <| λh0 n0 g=>ζ U (by simp[h1])<|bZ U<|aL U (by simp[h1]) U<|δ ?_;by_cases h2:(l.all tS&&decide (l.length<=4))=true
 case neg=>
  simp only[nG]at h2;refine ah U (by rw[h2];rfl) ?_;refine ε<|ψ U U<|d (y e g)<|γ U<|δ (Γ ⟨_,rfl,j _ _⟩)
 refine ae U (by rw[h2];rfl)<|Ω ?_;simp only[aK,aW]at h2;have c:=Fe h1;have g1:=h1;have i:=h2;have hs:∀b∈l,Bd b.2/\b.1.length<10000000:=λb hb=>by have:=(mE.1 h2.1) b hb;simp only[tS,aK,ov,cg]at this;exact⟨Fe this.1,by omega⟩
 have z:(if dn ts=0 then zM ts else []).length<1000000:=by
  split
  ·rename_i hf;exact xb (Cc c hf).1
  ·simp
 have A:=q.ext g;refine ε<|γ U<|ψ U U<|w9 a.toCd (ht.ext g) c <| λv1 h1 n1 r B=>ψ U U<|w8 a c (A.ext r) B <| λR h2 S D b2=>γ U<|bF U U<|bF U U<|γ U<|γ U<|δ ?_;have x2:=(g.trans r).trans D;refine θ<|ε<|γ U<|ψ U U<|w10 a c (ht.ext x2) <| λT E H u b3=>γ U<|bF U U<|bF U U<|γ U<|γ U<|δ ?_;have x3:=x2.trans u;refine ε<|γ U<|γ U<|ψ U U<|w11 a.toCd (du.ext b2 u) b3 z<|bZ U<|γ U<|ζ U (rfl)<|γ U<|ζ U (rfl)<|γ U<|ζ U (rfl)<|dR U U<|aL U (rfl) U<|δ ?_;refine ae U (by simp)<|Ω ?_;refine ε<|γ U<|δ ?_;refine θ<|ε<|γ U<|al U (sl.ext x3)<|γ U<|δ ?_;refine aj<|χ (ali (hl.ext x3) (by omega) ?_ _ 0 .ns [] E H rfl (by omega) (xj.nil (Ext.refl _ _))) (ρ.rf U);intro w W X E4 I J s;refine bS s ?_;have x4:=x3.trans I;have hp:dn ts=0->mA l l 0=0->PC ts.length 200 120 ts l:=TU g1 i.1 i.2;refine ε<|γ U<|ψ U U<|w9 a.toCd (ht.ext x4) c <| λY Z n5 k L=>γ U<|ψ U U<|w13 a (hl.ext (x4.trans k)) (by omega) (λb hb=>(hs b hb).1) <| λv6 h6 n6 m b6=>ψ U U<|w12 a o (q.ext ((x4.trans k).trans m)) (L.ext m) b6 (by omega) c hs hp <| λv7 h7 n7 M N=>γ U<|bF U U<|bF U U<|γ U<|γ U<|δ ?_;have v:=(k.trans m).trans M;refine ε<|γ U<|γ U<|ψ U U<|w14 a o (ht.ext (x4.trans v)) (J.ext v) (by omega) c hs hp <| λv8 h8 n8 O P=>γ U<|bF U U<|bF U U<|γ U<|γ U<|δ ?_;refine ε<|γ U<|γ U<|γ U<|γ U<|ψ U U<|w15 a.toCd (N.ext O) P (alh g1 i.1 i.2)<|γ U<|δ (Γ ⟨_,rfl,j _ _⟩)
end
end Go.Ev.X
