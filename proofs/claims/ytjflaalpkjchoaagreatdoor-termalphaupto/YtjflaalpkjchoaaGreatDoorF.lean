/- A part of the proof. -/
import Derived.Lib.Bytealg
import Derived.Lib.Builder
import Derived.Test.YtjflaalpkjchoaaGreatDoorD
import Derived.Test.YtjflaalpkjchoaaGreatDoorE
import Derived.Test.YtjflaalpkjchoaaGreatDoorA
set_option linter.all false
namespace Go.Ev.X
open Go Go.Ev
section
section
variable {C:Nat->Option aE}{E:Env}{h:Hf}{n:K}{k:V->Hf->K->Prop}
def Sg:∀f,Aa (ev C f)
 | 0=>λc T H n r _ h=>by cases h
 | f+1=>RR (Sg f)
def lZ(es:List (V×V×Nat))(c:Nat)(L:List (S×V)):Prop:=es.map (λe=>(e.1,e.2.1))=L.map (λp=>(st p.1,p.2))/\jl c 0 es=true
def pA(s:S)(v:V):List (S×V)->List (S×V)
 | []=>[(s,v)]
 | p::l=>if p.1=s then (s,v)::l else p::pA s v l
def oN(s:S):List (S×V)->Option V
 | []=>none
 | p::l=>if p.1=s then some p.2 else oN s l
def Sj(a b:S):kZ (.one .str) (st a) (st b)=some (decide (a=b)):=by show some (_&&_)=_;rw[BU]
def Sk{s:S}:∀{es:List (V×V×Nat)} {L:List (S×V)},es.map (λe=>(e.1,e.2.1))=L.map (λp=>(st p.1,p.2))->vS (.one .str) (st s) es=some (oN s L)
 | [],[],_=>rfl
 | [],_::_,h=>by simp at h
 | _::_,[],h=>by simp at h
 | e::es,p::L,h=>by
  obtain⟨ek,ev,i⟩:=e;simp only[eY,List.cons.injEq,Prod.mk.injEq]at h;obtain⟨⟨h1,h2⟩,f⟩:=h;subst h1;subst h2;simp only[vS,oN,Sj];by_cases e:s=p.1
  ·subst e;simp
  ·have g:¬ p.1=s:=λx=>e x.symm;simp only[e,g,decide_false,if_false];exact Sk f
def Sl{s:S}{v:V}{c:Nat}:∀{es:List (V×V×Nat)} {L:List (S×V)} {lo:Nat},es.map (λe=>(e.1,e.2.1))=L.map (λp=>(st p.1,p.2))->jl c lo es=true->lo<=c->∃f b,xr (.one .str) (st s) v c es=some (f,b)/\f.map (λe=>(e.1,e.2.1))=(pA s v L).map (λp=>(st p.1,p.2))/\jl (bif b then Nat.succ c else c) lo f=true
 | [],[],lo,_,_,i=>⟨_,_,rfl,rfl,by simp only[cond_true,jl,Nat.blt];simp;exact i⟩
 | [],_::_,_,h,_,_=>by simp at h
 | _::_,[],_,h,_,_=>by simp at h
 | e::es,p::L,lo,h,hs,i=>by
  obtain⟨ek,ev,j⟩:=e;simp only[eY,List.cons.injEq,Prod.mk.injEq]at h;obtain⟨⟨h1,h2⟩,o⟩:=h;subst h1;subst h2;simp only[jl,aD]at hs;obtain⟨⟨s1,g⟩,r⟩:=hs;have B:j<c:=j4 g;simp only[xr,pA,Sj];by_cases e:s=p.1
  ·subst e;refine⟨_,_,by simp;exact⟨rfl,rfl⟩,by simp[o],?_⟩;simp only[cond_false,jl,aD];exact⟨⟨s1,g⟩,r⟩
  ·have u:¬ p.1=s:=λx=>e x.symm;obtain⟨f,b,g1,w,A⟩:=Sl (s:=s) (v:=v) (c:=c) o r (by omega);simp only[e,u,decide_false,if_false,g1];refine⟨_,_,rfl,by simp[w],?_⟩;simp only[jl,aD];refine⟨⟨s1,?_⟩,A⟩;cases b with
   | false=>exact g
   | true=>show Nat.ble (j+1) (c+1)=true;exact gk (by omega)
def afU(e:∀h' n',n'.num=n.num+1->h' n=some (.mp [] 0)->Ext h n h' n'->k (.m n) h' n'):SO C .mmap E h n k:=
 zK (λ_ _ _ _=>rfl) (λT H f g=>rfl) (e _ _ (K.eI n) (eJ _ _ _) ((Ext.refl h n).new _))
def afV{m x y:ao}{b:K}{s:S}{v:V}{es:List (V×V×Nat)}{c:Nat}{L:List (S×V)}(hm:ge E m=some (.m b))(j:ge E x=some (X.st s))(o:ge E y=some v)(hb:h b=some (.mp es c))(g:lZ es c L)
 (p:∀h' e c',h' b=some (.mp e c')->lZ e c' (pA s v L)->bA b h h'->k (.u []) h' n):SO C (.GS (.one .str) m x y) E h n k:=
 mz (λ_ _ _ _=>rfl) λT H f i=>by
  obtain⟨e,r,g1,w,A⟩:=Sl (s:=s) (v:=v) (c:=c) g.1 g.2 (oy _);have B:H.get b=some (.mp es c):=by rw[i];exact hb
  refine⟨.u [],H.put (some (.mp e (bif r then Nat.succ c else c))) b,n,?_,by rw[fE,i];exact p _ _ _ (eJ _ _ _) ⟨w,A⟩ (jr _ _ _)⟩
  simp only[simple,f.ge hm,f.ge j,f.ge o,oY,cond_true,B,g1]
def Sn{m x:ao}{b:K}{s:S}{z:V}{es:List (V×V×Nat)}{c:Nat}{L:List (S×V)}(hm:ge E m=some (.m b))(g:ge E x=some (X.st s))(hb:h b=some (.mp es c))(i:lZ es c L)
 (j:k (match oN s L with | some v=>.u [v,.b true] | none=>.u [z,.b false]) h n):SO C (.lkp (.one .str) z true m x) E h n k:=
 mz (λ_ _ _ _=>rfl) λT H e f=>by
  have o:H.get b=some (.mp es c):=by rw[f];exact hb
  refine⟨_,H,n,?_,by rw[f];exact j⟩;simp only[simple,e.ge hm,e.ge g,oY,cond_true,o,Sk (s:=s) i.1];cases oN s L<;>rfl
def afW{x:ao}{b:K}{es:List (V×V×Nat)}{c:Nat}(f:ge E x=some (.m b))(hb:h b=some (.mp es c))(g:∀h' n',n'.num=n.num+1->h' n=some (.mi b c)->Ext h n h' n'->k (.p n 0) h' n'):SO C (.DC true x) E h n k:=
 mz (λ_ _ _ _=>rfl) λT H i e=>by
  have j:H.get b=some (.mp es c):=by rw[e];exact hb
  refine⟨.p n 0,H.put (some (.mi b c)) n,n.succ,?_,by rw[fE,e];exact g _ _ (K.eI n) (eJ _ _ _) ((Ext.refl h n).new _)⟩;simp only[simple,i.ge f,j,jD]
def afX{x:ao}{b m:K}{es:List (V×V×Nat)}{c t:Nat}{a v:V}(f:ge E x=some (.p b 0))(hb:h b=some (.me m c t))(hm:h m=some (.mp es c))(hf:vT t es=some (a,v))(g:k (.u [a,v]) h n):SO C (.GU x) E h n k:=
 mz (λ_ _ _ _=>rfl) λT H i e=>by
  refine⟨.u [a,v],H,n,?_,by rw[e];exact g⟩;have j:H.get b=some (.me m c t):=by rw[e];exact hb
  have o:H.get m=some (.mp es c):=by rw[e];exact hm
  simp only[simple,i.ge f,j,o,dP,hf];simp
def afY{c:Nat}:∀{es:List (V×V×Nat)} {lo:Nat},jl c lo es=true->∀e∈es,vT e.2.2 es=some (e.1,e.2.1):=by
 intro es
 induction es with
 | nil=>intro lo _ e he;cases he
 | cons a es ih=>
  intro lo hs e he;obtain⟨f,g,t⟩:=a;have i:=(Sf hs).2;simp only[jl,aD]at hs;simp only[vT,dP];by_cases ht:t=e.2.2
  ·have:=i e he (f,g,t) (by simp) ht.symm;subst this;simp
  ·simp only[ht,decide_false,cond_false];rcases cD.1 he with rfl | he
   ·exact absurd rfl ht
   ·exact ih hs.2 e he
def afZ{k:K}{v:V}(hv:dK v v=true):∀{T T':Tr V},T.get k=some v->T'.get k=some v->(meet T T').get k=some v:=by
 induction k with
 | h=>
  intro T T' h1 h2;cases T with
  | e=>cases h1
  | n a l r=>cases T' with
   | e=>cases h2
   | n a' l' r'=>
    simp only[Tr.get]at h1 h2;subst h1;subst h2;simp only[meet,Tr.get,hv,cond_true]
 | o p ih=>
  intro T T' h1 h2;cases T with
  | e=>cases h1
  | n a l r=>cases T' with
   | e=>cases h2
   | n a' l' r'=>exact ih (T:=l) (T':=l') h1 h2
 | i p ih=>
  intro T T' h1 h2;cases T with
  | e=>cases h1
  | n a l r=>cases T' with
   | e=>cases h2
   | n a' l' r'=>exact ih (T:=r) (T':=r') h1 h2
def Sp:∀{ws:List K} {T:Tr V} {k:K},k ∉ ws->(erase T ws).get k=T.get k
 | [],_,_,_=>rfl
 | a::ws,T,k,h=>by simp only[cD,not_or]at h;show(erase (T.put none a) ws).get k=_;rw[Sp h.2,Tr.tY _ _ h.1]
def FD{go:V×V×Nat->Option R}{T:Tr V}{H:Hp}{n:K}{kr:K}{w:V}(p:dK w w=true):∀{es:List (V×V×Nat)},(∀e∈es,∃r,go e=some r/\(r.ex=.normal\/r.ex=.ret/\r.T.get kr=some w))->∃q,lh true go T H n es=some q/\((q=none/\∀e∈es,∃r,go e=some r/\r.ex=.normal)\/∃T0,q=some T0/\T0.get kr=some w/\∃e∈es,∃r,go e=some r/\r.ex=.ret)
 | [],_=>⟨none,rfl,.inl ⟨rfl,λe he=>by cases he⟩⟩
 | e::es,h=>by
  obtain⟨q,h1,h2⟩:=FD (T:=T) (H:=H) (n:=n) p (es:=es) λe he=>h e (by simp[he]);obtain⟨⟨ex,T',v,H',n'⟩,g1,f⟩:=h e (by simp);rcases f with f | ⟨f,j⟩
  ·simp only at f;subst f;refine⟨q,by simp only[lh,g1,Bool.true_or,cond_true];exact h1,?_⟩;rcases h2 with ⟨g,i⟩ | ⟨T0,g,i,u,A,B⟩
   ·left;refine⟨g,λx o=>?_⟩;rcases cD.1 o with rfl | o
    ·exact⟨_,g1,rfl⟩
    ·exact i x o
   ·exact .inr ⟨T0,g,i,u,by simp[A],B⟩
  ·simp only at f j;subst f;rcases h2 with ⟨g,i⟩ | ⟨T0,g,i,_⟩
   ·subst g;exact⟨some T',by simp only[lh,g1,Bool.true_or,cond_true,h1],.inr ⟨T',rfl,j,e,by simp,_,g1,rfl⟩⟩
   ·subst g;exact⟨some (meet T' T0),by simp only[lh,g1,Bool.true_or,cond_true,h1],.inr ⟨_,rfl,afZ p j i,e,by simp,_,g1,rfl⟩⟩
end
def Sq{T:Tr V}{k:K}{w:V}(h:T.get k=some w):Le [(k,w)] T:=λk' v e=>by
 simp only[lk]at e;cases hb:K.beq k k' with
 | false=>rw[hb]at e;cases e
 | true=>rw[hb]at e;injection e with e;subst e;rw[←K.beq_eq hb];exact h
def af0{es:List (V×V×Nat)}{P:V×V×Nat->Nat->Prop}(hP:∀e f f',P e f->f<=f'->P e f')(h:∀e∈es,∃f,P e f):∃f,∀e∈es,P e f:=by
 induction es with
 | nil=>exact⟨0,λe he=>by cases he⟩
 | cons a es ih=>
  obtain⟨f1,h1⟩:=ih λe he=>h e (by simp[he]);obtain⟨f2,h2⟩:=h a (by simp);refine⟨max f1 f2,λe he=>?_⟩;rcases cD.1 he with rfl | he
  ·exact hP _ _ _ h2 (by omega)
  ·exact hP _ _ _ (h1 e he) (by omega)
def af1{C:Nat->Option aE}{E E0:Env}{h:Hf}{n:K}{Q:Ex->Env->Hf->K->Prop}{d:Option K}{x:ao}{l:List AO}{c:AC}{ws:List K}{b m kr:K}{w:V}{es:List (V×V×Nat)}{bp:Nat}
 (bad:V×V×Nat->Prop)(hx:ge E x=some (.p b 0))(hb:h b=some (.mi m bp))(hm:h m=some (.mp es bp))(aG:m≠b)(cA:jl bp 0 es=true)
 (hq:((l.all λo=>AP o.op)&&quiet c)=true)(JO:∀k∈Ab d l c,k∈ws)(U:∀k v,lk E0 k=some v->lk E k=some v/\k ∉ ws)(yV:ge E0 x=some (.p b 0))(Z:dK w w=true)
 (hr:∀e∈es,WO C l (gR d (.u [.b true,e.1,e.2.1]) E0) (hp h b (some (.me m bp e.2.2))) n (λE1 h1 n1=>WC C c E1 h1 n1 (λex E2 h2 n2=>(ex=.normal/\¬ bad e)\/(ex=.ret/\bad e/\lk E2 kr=some w))))
 (hR:(∃e∈es,bad e)->∀h2,bA b h h2->Q .ret [(kr,w)] h2 n)
 (hO:(∀e∈es,¬ bad e)->WO C l (gR d (.u [.b false]) E0) (hp h b none) n (λE1 h1 n1=>WC C c E1 h1 n1 (λex E2 h2 n2=>ex≠.normal/\Q ex E2 h2 n2))):WC C (.jC d x l c ws) E h n Q:=by
 intro T H hT J;have hxT:=hT.ge hx;have yT:H.get b=some (.mi m bp):=by rw[J];exact hb
 have Ym:H.get m=some (.mp es bp):=by rw[J];exact hm
 have xK:=hq;simp only[aD]at xK;have round:∀(T0:Tr V),Le E0 T0->∀e∈es,∃r E2,(∃f0,∀f,f0<=f->gS (ev C f) d l c b m bp T0 (H.put none b) n e=some r)/\Le E2 r.T/\((r.ex=.normal/\¬ bad e)\/(r.ex=.ret/\bad e/\lk E2 kr=some w))/\r.H=(H.put none b).put (some (.me m bp e.2.2)) b/\r.n=n/\∀k,k ∉ ws->r.T.get k=T0.get k:=by
  intro T0 B e he;have hh:((H.put none b).put (some (.me m bp e.2.2)) b).get=hp h b (some (.me m bp e.2.2)):=by rw[fE,fE,J];funext k;unfold hp;split<;>rfl
  obtain⟨T1,H1,n1,E1,⟨f1,r1⟩,l1,D⟩:=hr e he _ _ (B.gR d (.u [.b true,e.1,e.2.1])) hh;obtain⟨r,E2,⟨f2,r2⟩,l2,G⟩:=D T1 H1 l1 rfl;have a:=Jz _ _ _ _ _ xK.1 (r1 f1 (ξ _));have a2:=Sg (C:=C) f2 _ _ _ _ _ xK.2 (r2 f2 (ξ _));simp only at a;refine⟨r,E2,⟨max f1 f2,λf hf=>?_⟩,l2,G,by rw[a2.1,a.1],by rw[a2.2.1,a.2.1],λk A=>?_⟩
  ·unfold gS;rw[r1 f (by omega)];exact r2 f (by omega)
  ·have W:k ∉ Ab d l c:=λe=>A (JO k e);simp only[Ab,eG,not_or]at W;rw[a2.2.2 k W.2,a.2.2 k W.1.2,Jy];intro e1 e2 e3;subst e2;subst e3;exact W.1.1 (by simp)
 have over:(∀e∈es,¬ bad e)->∀(T0:Tr V) (H0:Hp),Le E0 T0->H0.get=hp h b none->∃r E2,(∃f0,∀f,f0<=f->wo (ev C f) d l c T0 H0 n=some r)/\Le E2 r.T/\Q r.ex E2 r.H.get r.n:=by
  intro M T0 H0 B X;obtain⟨T1,H1,n1,E1,⟨f1,r1⟩,l1,D⟩:=hO M _ _ (B.gR d (.u [.b false])) X;obtain⟨r,E2,⟨f2,r2⟩,l2,G,q3⟩:=D T1 H1 l1 rfl;refine⟨r,E2,⟨max f1 f2,λf hf=>?_⟩,l2,q3⟩;unfold wo;rw[r1 f (by omega)];simp only;rw[r2 f (by omega)];obtain⟨ex,T',v,H',n'⟩:=r;cases ex with
  | normal=>exact absurd rfl G
  | _=>rfl
 by_cases aZ:∃e,es=[e]
 ·obtain⟨e,rfl⟩:=aZ;have B:Le E0 T:=λk v A=>hT k v (U k v A).1;obtain⟨⟨ex,T1,v1,H1,n1⟩,E2,⟨f1,r1⟩,l1,D,N,rn,rT⟩:=round T B e (by simp);simp only at l1 D N rn rT;have step:∀f,aS C (ev C f) (.code (.jC d x l c ws) T) H n=Ct (ev C f) d x l c b m bp bp T H n e:=λf=>by
   have hc:(Nat.beq bp bp&&jl bp 0 [e])=true:=by rw[cA,dP];simp
   simp only[aS,hxT,yT,Ym,hc,cond_true];rfl
  rcases D with ⟨rfl,M⟩ | ⟨rfl,qM,A⟩
  ·have G3:Le E0 T1:=λk v A=>by rw[rT k (U k v A).2];exact B k v A
   have hH1:(H1.put none b).get=hp h b none:=by subst N;rw[fE,fE,fE,J];funext k;unfold hp;split<;>rfl
   obtain⟨r,E3,⟨f2,r2⟩,l2,G⟩:=over (λe' uy=>by rw[gF]at uy;subst uy;exact M) T1 (H1.put none b) G3 hH1;subst rn;refine⟨r,E3,eS.step ⟨max f1 f2,λf hf=>?_⟩,l2,G⟩;rw[step,Ct,r1 f (by omega)];have g1:H1.get b=some (.me m bp e.2.2):=by rw[N,Tr.xA]
   have i:H1.get m=some (.mp [e] bp):=by rw[N,Tr.tY _ _ aG,Tr.tY _ _ aG];exact Ym
   have j:m7 T1 x b=true:=by unfold m7;rw[G3.ge yV];exact K.beq_refl _
   obtain⟨ek,evv,et⟩:=e;simp only[g1,i,dP,decide_true,tP,j,cond_true];exact r2 f (by omega)
  ·refine⟨⟨.ret,T1,v1,H1,n1⟩,[(kr,w)],eS.step ⟨f1,λf hf=>by rw[step,Ct,r1 f hf]⟩,Sq (l1 _ _ A),?_⟩
   ·show Q .ret _ H1.get n1;subst rn;exact hR ⟨e,by simp,qM⟩ _ (by subst N;rw[fE,fE,J];intro k A;have:=(qo A);simp only[hp,this,if_false])
 ·have B:Le E0 (erase T ws):=λk v A=>by rw[Sp (U k v A).2];exact hT k v (U k v A).1
  have X:(H.put none b).get=hp h b none:=by rw[fE,J]
  obtain⟨f1,I⟩:=af0 (es:=es) (P:=λe f=>∃r,(∀f',f<=f'->gS (ev C f') d l c b m bp (erase T ws) (H.put none b) n e=some r)/\((r.ex=.normal/\¬ bad e)\/(r.ex=.ret/\bad e/\r.T.get kr=some w)))
   (λe f f' ⟨r,h1,h2⟩ hf=>⟨r,λf'' yK=>h1 f'' (by omega),h2⟩) λe he=>by obtain⟨r,E2,⟨f0,r1⟩,l1,D,_⟩:=round _ B e he;exact⟨f0,r,r1,D.imp id λ⟨a,b',c'⟩=>⟨a,b',l1 _ _ c'⟩⟩
  have step:∀f,aS C (ev C f) (.code (.jC d x l c ws) T) H n=(match lh true (gS (ev C f) d l c b m bp (erase T ws) (H.put none b) n) (erase T ws) (H.put none b) n es with
   | some none=>wo (ev C f) d l c (erase T ws) (H.put none b) n
   | some (some T0)=>some ⟨.ret,T0,.q,H.put none b,n⟩
   | none=>none):=λf=>by
   have Cu:m7 (erase T ws) x b=true:=by unfold m7;rw[B.ge yV];exact K.beq_refl _
   have hc:(Nat.beq bp bp&&jl bp 0 es)=true:=by rw[cA,dP];simp
   simp only[aS,hxT,yT,Ym,hc,cond_true];split
   ·rename_i e;exact absurd ⟨e,rfl⟩ aZ
   ·simp only[Cu,cond_true,hq];rfl
  by_cases Y:∃e∈es,bad e
  ·
   have key:∀f,f1<=f->∃T0,aS C (ev C f) (.code (.jC d x l c ws) T) H n=some ⟨.ret,T0,.q,H.put none b,n⟩/\T0.get kr=some w:=λf hf=>by
    obtain⟨q,h1,h2⟩:=FD (go:=gS (ev C f) d l c b m bp (erase T ws) (H.put none b) n) (T:=erase T ws) (H:=H.put none b) (n:=n) (kr:=kr) Z (es:=es) λe he=>by obtain⟨r,g1,i⟩:=I e he;exact⟨r,g1 f hf,i.imp (λa=>a.1) λa=>⟨a.1,a.2.2⟩⟩
    rw[step,h1];rcases h2 with ⟨rfl,h2⟩ | ⟨T0,rfl,h2,_⟩
    ·obtain⟨e,he,O⟩:=Y;obtain⟨r,g1,i⟩:=I e he;obtain⟨r',j,F⟩:=h2 e he;rw[g1 f hf]at j;injection j with j;subst j;rcases i with ⟨_,i⟩ | ⟨i,_⟩
     ·exact absurd O i
     ·rw[i]at F;cases F
    ·exact⟨T0,rfl,h2⟩
   obtain⟨T0,k1,k2⟩:=key f1 (ξ _);have same:∀f,f1<=f->aS C (ev C f) (.code (.jC d x l c ws) T) H n=some ⟨.ret,T0,.q,H.put none b,n⟩:=λf hf=>by
    rw[step]at k1 ⊢;have:lh true (gS (ev C f) d l c b m bp (erase T ws) (H.put none b) n) (erase T ws) (H.put none b) n es=lh true (gS (ev C f1) d l c b m bp (erase T ws) (H.put none b) n) (erase T ws) (H.put none b) n es:=by
     have cg:∀(l':List (V×V×Nat)) (g g':V×V×Nat->Option R),(∀e∈l',g e=g' e)->lh true g (erase T ws) (H.put none b) n l'=lh true g' (erase T ws) (H.put none b) n l':=by
      intro l'
      induction l' with
      | nil=>intro g g' _;rfl
      | cons a l' ih=>intro g g' hg;simp only[lh];rw[hg a (by simp),ih g g' λe he=>hg e (by simp[he])]
     refine cg es _ _ λe he=>?_;obtain⟨r,g1,_⟩:=I e he;rw[g1 f hf,g1 f1 (ξ _)]
    rw[this];revert k1;cases hmr:lh true (gS (ev C f1) d l c b m bp (erase T ws) (H.put none b) n) (erase T ws) (H.put none b) n es with
    | none=>intro k1;cases k1
    | some q=>cases q with
     | some T1=>intro k1;exact k1
     | none=>
      intro _;exfalso;obtain⟨e,he,O⟩:=Y;obtain⟨r,g1,i⟩:=I e he;obtain⟨q',h1,h2⟩:=FD (go:=gS (ev C f1) d l c b m bp (erase T ws) (H.put none b) n) (T:=erase T ws) (H:=H.put none b) (n:=n) (kr:=kr) Z (es:=es) λe he=>by obtain⟨r,g1,i⟩:=I e he;exact⟨r,g1 f1 (ξ _),i.imp (λa=>a.1) λa=>⟨a.1,a.2.2⟩⟩
      rw[hmr]at h1;injection h1 with h1;subst h1;rcases h2 with ⟨_,h2⟩ | ⟨T0,h2,_⟩
      ·obtain⟨r',j,F⟩:=h2 e he;rw[g1 f1 (ξ _)]at j;injection j with j;subst j;rcases i with ⟨_,i⟩ | ⟨i,_⟩
       ·exact i O
       ·rw[i]at F;cases F
      ·cases h2
   refine⟨⟨.ret,T0,.q,H.put none b,n⟩,[(kr,w)],eS.step ⟨f1,same⟩,Sq k2,?_⟩
   ·show Q .ret _ (H.put none b).get n;rw[X];exact hR Y _ (jr _ _ _)
  ·have M:∀e∈es,¬ bad e:=λe he O=>Y ⟨e,he,O⟩;obtain⟨r,E3,⟨f2,r2⟩,l2,G⟩:=over M (erase T ws) (H.put none b) B X;refine⟨r,E3,eS.step ⟨max f1 f2,λf hf=>?_⟩,l2,G⟩;obtain⟨q,h1,h2⟩:=FD (go:=gS (ev C f) d l c b m bp (erase T ws) (H.put none b) n) (T:=erase T ws) (H:=H.put none b) (n:=n) (kr:=kr) Z (es:=es) λe he=>by
    obtain⟨r,g1,i⟩:=I e he;exact⟨r,g1 f (by omega),i.imp (λa=>a.1) λa=>⟨a.1,a.2.2⟩⟩
   rw[step,h1];rcases h2 with ⟨rfl,_⟩ | ⟨T0,_,_,e,he,r',j,F⟩
   ·exact r2 f (by omega)
   ·exfalso;obtain⟨r,g1,i⟩:=I e he;rw[g1 f (by omega)]at j;injection j with j;subst j;rcases i with ⟨i,_⟩ | ⟨_,i,_⟩
    ·rw[i]at F;cases F
    ·exact M e he i
section
variable {C:Nat->Option aE}{E:Env}{h:Hf}{n:K}{q:Env->Hf->K->Prop}{l:List AO}{Δ:Nat}{d:K}{es:List (V×V×Nat)}{c t:Nat}{L:List (S×V)}{b m0:K}{s:S}{v z a:V}{m x y:ao}
def Sr(e:∀h' n',n'.num=n.num+1->h' n=some (.mp [] 0)->Ext h n h' n'->WO C l ((d,.m n)::E) h' n' q):WO C (⟨some d,.mmap,none,Δ⟩::l) E h n q:=bW (afU e)
def Ac(hm:ge E m=some (.m b))(f:ge E x=some (X.st s))(g:ge E y=some v)(hb:h b=some (.mp es c))(i:lZ es c L)(j:∀h' e c',h' b=some (.mp e c')->lZ e c' (pA s v L)->bA b h h'->WO C l E h' n q):WO C (⟨none,.GS (.one .str) m x y,none,Δ⟩::l) E h n q:=bW (afV hm f g hb i j)
def af3(hm:ge E m=some (.m b))(e:ge E x=some (X.st s))(hb:h b=some (.mp es c))(f:lZ es c L)(hv:oN s L=some v)(g:WO C l ((d,.u [v,.b true])::E) h n q):WO C (⟨some d,.lkp (.one .str) z true m x,none,Δ⟩::l) E h n q:=bW (Sn hm e hb f (by rw[hv];exact g))
def af4(hm:ge E m=some (.m b))(e:ge E x=some (X.st s))(hb:h b=some (.mp es c))(f:lZ es c L)(hv:oN s L=none)(g:WO C l ((d,.u [z,.b false])::E) h n q):WO C (⟨some d,.lkp (.one .str) z true m x,none,Δ⟩::l) E h n q:=bW (Sn hm e hb f (by rw[hv];exact g))
def af5(e:ge E x=some (.m b))(hb:h b=some (.mp es c))(f:∀h' n',n'.num=n.num+1->h' n=some (.mi b c)->Ext h n h' n'->WO C l ((d,.p n 0)::E) h' n' q):WO C (⟨some d,.DC true x,none,Δ⟩::l) E h n q:=bW (afW e hb f)
def af6(e:ge E x=some (.p b 0))(hb:h b=some (.me m0 c t))(hm:h m0=some (.mp es c))(hf:vT t es=some (a,v))(f:WO C l ((d,.u [a,v])::E) h n q):WO C (⟨some d,.GU x,none,Δ⟩::l) E h n q:=bW (afX e hb hm hf f)
end
def JP{q s:S}{v:V}:∀{M:List (S×V)},oN q (pA s v M)=if q=s then some v else oN q M
 | []=>by
  simp only[pA,oN];by_cases e:q=s;· subst e;simp
  ·have:¬ s=q:=λx=>e x.symm;simp[e,this]
 | p::M=>by
  simp only[pA];by_cases h:p.1=s
  ·rw[ab h];simp only[oN];by_cases e:q=s
   ·subst e;simp
   ·have f:¬ s=q:=λx=>e x.symm;have g:¬ p.1=q:=λx=>e (by rw[←x,h]);simp[e,f,g]
  ·rw[Γ h];simp only[oN,JP];by_cases e:p.1=q
   ·have:¬ q=s:=λx=>h (by rw[e,x]);simp[e,this]
   ·simp[e]
end
end Go.Ev.X
namespace Go.Ev
open Go
open Go.ChangeMaps (setBlock)
section
section
variable {P:Program}{ty:Ty}{C:Nat->Option aE}{ih:cV}{η η':Env}{T:Tr V}{H H' Hx:Hp}{n n':K}{w w' w0:World}{tmps:Array Value}{ds:List Deferred}{fr:Frame}{cs:List Frame}{k:List Item}
 {rid:Nat}{o0:Oper}{rest:List Oper}{c2:Code}{ops:Array Oper}
def Ss(hm:fr.mode=.run)(f:o0.guard=none)(g:∀c,o0.op≠.defer c){v:Value}(i:(execOp (ai tmps) o0).run P w=.ok (.value v) w'):
 Steps P (lone (put fr tmps ds (.code (.seq (.region rid ⟨o0::rest⟩ false) c2)::k)) cs w) (lone (put fr (jo o0.dst v tmps) ds (.inRegion ⟨o0::rest⟩ (List.range' 1 rest.length)::.code c2::k)) cs w'):=by
 refine Steps.head (zP hm) (Steps.head (B6 hm) ?_);have e:List.range (⟨o0::rest⟩:Array Oper).size=0::List.range' 1 rest.length:=by rw[vN];show List.range' 0 (rest.length+1)=_;rw[Qu]
 rw[e];have a:(⟨o0::rest⟩:Array Oper)[0]?=some o0:=rfl;have j:Region.wanted o0 (yielded ⟨o0::rest⟩ (put fr tmps ds (.inRegion ⟨o0::rest⟩ (0::List.range' 1 rest.length)::.code c2::k)).tmps)=true:=by unfold Region.wanted;rw[f]
 have b:=B3 (P:=P) (cs:=cs) (w:=w) (fr:=put fr tmps ds (.inRegion ⟨o0::rest⟩ (0::List.range' 1 rest.length)::.code c2::k)) hm rfl a j g;rw[eval_put]at b;have d:=EY b (λ_ _ _ _ h=>by cases h) (v:=v) (w':=w') ⟨.value v,w',i,rfl,rfl⟩;rw[EX,a]at d;exact d
def Su(j:Good P ty C)(c:kE P ty ih)(hm:fr.mode=.run)(l:ij fr.tmps.size (o0::rest)=true)(m:within fr.tmps.size c2=true){Tx T1:Tr V}{v1:V}{H1:Hp}{n1:K}{r:R}
 (o:fc ih (cE ty ⟨o0::rest⟩ rest []) Tx Hx n=some ⟨.normal,T1,v1,H1,n1⟩)(p:ih (.code (bV ty c2) T1) H1 n1=some r)(q:aK η Tx tmps)(s:tmps.size=fr.tmps.size)(d:bM η ty.g)(t:aU (WW ty) η Hx n w)(hl:jV fr w):
 ∃η' a e w',Trans (WW ty) η Hx n w η' r.H r.n w'/\a.size=fr.tmps.size/\aK η' r.T a/\Marks w.heap.size η' r.H w' e ds/\iV P η' (lone (put fr tmps ds (.inRegion ⟨o0::rest⟩ (List.range' 1 rest.length)::.code c2::k)) cs w) fr cs k r.ex a e w':=by
 obtain⟨η1,f,u,g1,h,v,x⟩:=Iw (fr:=fr) (cs:=cs) (k:=.code c2::k) (ds:=ds) (ops:=⟨o0::rest⟩) j c hm l rest 1 rfl η Tx Hx n w tmps _ o q s d t;obtain⟨y,z,A,B,D,E,F,G,I⟩:=c _ _ _ _ p η1 u (put fr f ds []) cs k c2 ⟨rfl,by show within f.size c2=true;rw[h];exact m⟩ v (d.mono g1.ext) g1.rep hm (hl.trans g1);refine⟨y,z,A,B,g1.trans D,E.trans h,F,?_,.of_steps x I⟩;obtain⟨bs,h1,h2,i⟩:=G;exact⟨bs,h1,h2,λb hb=>⟨eF g1.kept.size (i b hb).1,(i b hb).2⟩⟩
def Sv(ht:Trans (WW ty) η H n w η' H' n' w')(hf:∀k,n.num<=k.num->η k=none):bX η' n=η:=by
 funext k;unfold bX;by_cases h:k.num<n.num
 ·rw[ab h];exact ht.bC k h
 ·rw[Γ h,hf k (by omega)]
def af7{H0:Hp}(ht:Trans (WW ty) η H n w η' H' n' w')(hf:∀k,n.num<=k.num->η k=none)(hb:∀k o,H0.get k=some o->mC n o/\k.num<n.num)(hs:∀k o,H0.get k=some o->H'.get k=some o):aU (WW ty) η H0 n w':=by
 have e:=Sv ht hf;refine⟨λq o a=>?_,λq b o o' L L' c a hm d f g=>?_,hf⟩
 ·obtain⟨L,h1,h2,h⟩:=ht.rep.obj q o (hs q o a);refine⟨L,by rw[←e];exact pz h1 (hb q o a).2,h2,?_⟩;rw[←e];exact h.bX (hb q o a).1
 ·exact ht.rep.sep q b o o' L L' c (hs q o a) hm (hs b o' d) (ht.ext _ _ f) (ht.ext _ _ g)
def af8{T:Tr V}{t:Array Value}(ht:Trans (WW ty) η H n w η' H' n' w')(hf:∀k,n.num<=k.num->η k=none)(h:aK η' T t)(hb:∀t v,T.get (bF t)=some v->bz n v=true):aK η T t:=by have e:=Sv ht hf;rw[←e];exact h.bX hb
structure wu(ty:Ty)(η:Env)(H H0:Hp)(n:K)(T:Tr V)(w0:World)(fr:Frame)(Lb Lm:Loc)(since:Nat)(w:World)(tmps:Array Value)(ds:List Deferred)(seen:Array Nat)(c0:Nat):Prop where
 rep:aU (WW ty) η H0 n w
 it:w.heap[Lb.blk]?=some (.mapIter (some Lm.blk) since seen c0)
 c0:since<=c0
 kept:Kept (lQ η H true) w0 w
 size:tmps.size=fr.tmps.size
 jj:aK η T tmps
 marks:Marks w0.heap.size η H0 w ds fr.defers
structure rG(P:Program)(ty:Ty)(η:Env)(H H0:Hp)(kb m:K)(Lb Lm:Loc)(es:List (V×V×Nat))(bp:Nat):Prop where
 sub:∀k o,H0.get k=some o->H.get k=some o
 get:∃o,H.get kb=some o/\o.mut=true
 none:H0.get kb=none
 map:H0.get m=some (.mp es bp)
 lb:η kb=some Lb
 lm:η m=some Lm
 off:Lb.off=0
 apart:∀k o L,H0.get k=some o->η k=some L->L.blk≠Lb.blk
 stamps:jl bp 0 es=true
def Sw{bp:Nat}:∀{lo:Nat} {es:List (V×V×Nat)},jl bp lo es=true->∀e∈es,e.2.2<bp:=by
 intro lo es
 induction es generalizing lo with
 | nil=>intro _ e h;cases h
 | cons a es ih=>
  obtain⟨x,y,t⟩:=a;intro h e he;simp only[jl,aD]at h;rcases cD.1 he with rfl | he
  ·have:=h.1.2;simpa[fF]using this
  ·exact ih h.2 e he
def dM.mem:∀{es:List (V×V×Nat)} {l:List MapEntry},dM η es l->∀e∈l,∃k v,(k,v,e.born)∈es/\an η k e.key/\an η v e.val
 | [],[],_,e,h=>by cases h
 | (a,b,t)::es,x::l,⟨h1,h2,c,d⟩,e,h=>by
  rcases cD.1 h with rfl | h
  ·exact⟨a,b,by rw[c];simp,h1,h2⟩
  ·obtain⟨k,v,g1,f⟩:=dM.mem d e h;exact⟨k,v,List.mem_cons_of_mem _ g1,f⟩
def dM.JQ:∀{es:List (V×V×Nat)} {l:List MapEntry},dM η es l->l.map (·.born)=es.map (·.2.2)
 | [],[],_=>rfl
 | (a,b,t)::es,x::l,⟨h1,h2,c,d⟩=>by simp only[eY,c,dM.JQ d]
def Sx(a:Array MapEntry)(seen:Array Nat):(leftOf a seen).size=(a.toList.map (·.born)).countP (λt=>!seen.contains t):=by unfold leftOf;rw[←zj,Array.toList_filter,←List.countP_eq_length_filter,List.countP_map];rfl
def wu.me{H0:Hp}{kb m:K}{Lb Lm:Loc}{es:List (V×V×Nat)}{bp since c0 t:Nat}{seen:Array Nat}(X:rG P ty η H H0 kb m Lb Lm es bp)(I:wu ty η H H0 n T w0 fr Lb Lm since w tmps ds seen c0){c:World}(f:c=w\/c=w.drew):
 aU (WW ty) η (H0.put (some (.me m bp t)) kb) n (setBlock c Lb.blk (.mapIter (some Lm.blk) since (seen.push t) bp))/\Kept (lQ η H true) w0 (setBlock c Lb.blk (.mapIter (some Lm.blk) since (seen.push t) bp))/\(setBlock c Lb.blk (.mapIter (some Lm.blk) since (seen.push t) bp)).heap[Lb.blk]?=some (.mapIter (some Lm.blk) since (seen.push t) bp)/\Marks w0.heap.size η (H0.put (some (.me m bp t)) kb) (setBlock c Lb.blk (.mapIter (some Lm.blk) since (seen.push t) bp)) ds fr.defers/\(setBlock c Lb.blk (.mapIter (some Lm.blk) since (seen.push t) bp)).heap.size=w.heap.size:=by
 have z:c.heap=w.heap:=by rcases f with rfl | rfl<;>rfl
 have h1:c.os=w.os:=by rcases f with rfl | rfl<;>rfl
 have h2:c.tape=w.tape:=by rcases f with rfl | rfl<;>rfl
 have A:c.output=w.output:=by rcases f with rfl | rfl<;>rfl
 have s:Lb.blk<w.heap.size:=(mU.1 I.it).1;have heap:(setBlock c Lb.blk (.mapIter (some Lm.blk) since (seen.push t) bp)).heap=w.heap.setIfInBounds Lb.blk (.mapIter (some Lm.blk) since (seen.push t) bp):=by show c.heap.setIfInBounds _ _=_;rw[z]
 have same:∀b,b≠Lb.blk->(setBlock c Lb.blk (.mapIter (some Lm.blk) since (seen.push t) bp)).heap[b]?=w.heap[b]?:=λb hb=>by rw[heap,gj,Γ (λe=>hb e.symm)]
 have at':(setBlock c Lb.blk (.mapIter (some Lm.blk) since (seen.push t) bp)).heap[Lb.blk]?=some (.mapIter (some Lm.blk) since (seen.push t) bp):=by rw[heap,gj,ab rfl,ab s]
 have sz:(setBlock c Lb.blk (.mapIter (some Lm.blk) since (seen.push t) bp)).heap.size=w.heap.size:=by rw[heap];simp
 refine⟨⟨λq o a=>?_,λq u o o' L L' B a g i v d=>?_,I.rep.free⟩,?_,at',?_,sz⟩
 ·rw[Tr.fk]at a;by_cases e:q=kb
  ·rw[ab e]at a;injection a with a;subst a;subst e;exact⟨Lb,X.lb,by rw[sz];exact s,X.off,Lm,since,seen.push t,X.lm,at',by simp⟩
  ·rw[Γ e]at a;obtain⟨L,g1,j,l⟩:=I.rep.obj q o a;refine⟨L,g1,by rw[sz];exact j,?_⟩;rw[same _ (X.apart q o L a g1)];exact l
 ·rw[Tr.fk]at a i;by_cases e:q=kb
  ·rw[ab e]at a;injection a with a;subst a;cases g
  ·rw[Γ e]at a;by_cases x:u=kb
   ·rw[x,X.lb]at d;injection d with d;subst d;exact X.apart q o L a v
   ·rw[Γ x]at i;exact I.rep.sep q u o o' L L' B a g i v d
 ·obtain⟨ob,D,g⟩:=X.get;refine⟨h1.trans I.kept.os,h2.trans I.kept.tape,A.trans I.kept.output,by rw[sz];exact I.kept.size,λb hb y=>?_,λb r E=>?_⟩
  ·rw[same b (λe=>y ⟨kb,ob,Lb,D,λ_=>g,X.lb,e.symm⟩)];exact I.kept.block b hb y
  ·obtain⟨r',h⟩:=I.kept.loops b r E;refine⟨r',?_⟩;rw[same b (λe=>by rw[e,I.it]at h;cases h)];exact h
 ·obtain⟨bs,g1,j,l⟩:=I.marks;refine⟨bs,g1,j,λb hb=>?_⟩;obtain⟨F,p,G⟩:=l b hb;refine⟨F,?_,?_⟩
  ·rw[same b (λe=>by rw[e,I.it]at p;cases p)];exact p
  ·rintro⟨q,o,L,b1,b2,b3,b4⟩;rw[Tr.fk]at b1;by_cases e:q=kb
   ·rw[ab e]at b1;injection b1 with b1;subst b1;cases b2 rfl
   ·rw[Γ e]at b1;exact G ⟨q,o,L,b1,b2,b3,b4⟩
def Sy{b:Operand}{x:ao}{kb:K}{Lb:Loc}(c:br ty b=some x)(hi:m7 T x kb=true)(d:aK η T tmps)(f:bM η ty.g)(hb:η kb=some Lb)(i:Lb.off=0):ai tmps b=.pointer (some ⟨Lb.blk,0,none⟩):=by
 unfold m7 at hi;split at hi
 case h_2=>cases hi
 rename_i b' j;have e:=K.beq_eq hi;subst e;have h:=bT d f c j;generalize ai tmps b=y at h;cases h with
 | p _ _ L a=>rw[hb]at a;injection a with a;subst a;rw[i]
def JR(R:Good P ty C)(S:kE P ty ih)(hm:fr.mode=.run){j:Option Tmp}{A:Operand}{rt:TypeId}{pos:String}{after:Array Edge}(r:o0=⟨j,.next A false,rt,pos,after,none⟩)
 (E:ij fr.tmps.size (o0::rest)=true)(U:within fr.tmps.size c2=true){x:ao}(W:br ty A=some x){H0:Hp}{kb m:K}{Lb Lm:Loc}{es:List (V×V×Nat)}{bp c0:Nat}{seen:Array Nat}
 (X:rG P ty η H H0 kb m Lb Lm es bp)(I:wu ty η H H0 n T w0 fr Lb Lm bp w tmps ds seen c0)(F:bM η ty.g)(hl:jV fr w0)(Y:m7 T x kb=true)
 (Z:∀e∈es,∃a,gS ih (j.map bF) (cE ty ⟨o0::rest⟩ rest []) (bV ty c2) kb m bp T H0 n e=some a):
 ((es.map (·.2.2)).countP (λt=>!seen.contains t)=0/\(execOp (ai tmps) o0).run P w=.ok (.value (.tuple #[.bool false])) w)\/
 ∃e a i η' o s w',e∈es/\seen.contains e.2.2=false/\gS ih (j.map bF) (cE ty ⟨o0::rest⟩ rest []) (bV ty c2) kb m bp T H0 n e=some a/\aU (WW ty) η (H0.put (some (.me m bp e.2.2)) kb) n i/\Kept (lQ η H true) w0 i/\i.heap[Lb.blk]?=some (.mapIter (some Lm.blk) bp (seen.push e.2.2) bp)/\Marks w0.heap.size η (H0.put (some (.me m bp e.2.2)) kb) i ds fr.defers/\Trans (WW ty) η (H0.put (some (.me m bp e.2.2)) kb) n i η' a.H a.n w'/\o.size=fr.tmps.size/\aK η' a.T o/\Marks i.heap.size η' a.H w' s ds/\iV P η' (lone (put fr tmps ds (.code (.seq (.region rid ⟨o0::rest⟩ false) c2)::k)) cs w) fr cs k a.ex o s w':=by
 obtain⟨B,rZ,D⟩:=xJ I.rep X.map X.lm;have hold:∀y∈B.toList,y.born<bp:=λy hy=>by obtain⟨_,_,h,_⟩:=D.mem y hy;exact Sw X.stamps _ h
 have yP:=Sy W Y I.jj F X.lb X.off;have G:∀v p,(Instr.next (.pointer (some ⟨Lb.blk,0,none⟩)) false rt).run P w=.ok v p->(execOp (ai tmps) o0).run P w=.ok (.value v) p:=by intro v p h;subst r;show(do pure (.value (←Instr.next (ai tmps A) false rt)):Sem Next).run P w=_;rw[yP];show(Sem.bind _ _).run P w=_;rw[Sem.run_bind',h];rfl
 rcases run_next_at w rt Lb.blk Lm.blk bp c0 seen B bp I.it rZ hold I.c0 with ⟨h1,h2⟩ | ⟨f,h1,p,h2,h3⟩
 ·left;refine⟨?_,G _ _ h2⟩;rw[Sx,D.JQ]at h1;exact h1
 ·right;have J:f∈B.toList/\seen.contains f.born=false:=by
   unfold leftOf at h1;simpa using h1
  obtain⟨L,vv,M,hk,hv⟩:=D.mem f J.1;obtain⟨a,N⟩:=Z _ M;obtain⟨O,Q,q3,q4,q5⟩:=I.me X h2 (t:=f.born);have z:=N;unfold gS at z;split at z
  case h_2=>cases z
  rename_i T1 v1 H1 n1 JT;have dN:∀d,o0.dst=some d->d<tmps.size:=λd nt=>by rw[I.size];exact JM E o0 (by simp) d nt
  have qN:o0.dst=j:=by rw[r]
  have JU:aK η (da (j.map bF) (some (.u [.b true,L,vv])) T) (jo o0.dst (.tuple #[.bool true,f.key,f.val]) tmps):=by rw[←qN];exact I.jj.jo dN (.u _ _ (.cons _ _ _ _ (.b _) (.cons _ _ _ _ hk (.cons _ _ _ _ hv .nil))))
  have pU:jV fr (setBlock p Lb.blk (.mapIter (some Lm.blk) bp (seen.push f.born) bp)):=λl iF=>let⟨q,hq⟩:=hl l iF;Q.loops l q hq;obtain⟨η',o,s,w',b1,b2,b3,b4,b5⟩:=Su (cs:=cs) (k:=k) (ds:=ds) R S hm E U JT z JU (by rw[B4];exact I.size) F O pU;refine⟨(L,vv,f.born),a,_,η',o,s,w',M,J.2,N,O,Q,q3,q4,b1,b2,b3,b4,.of_steps (Ss hm (by rw[r]) (λc h=>by rw[r]at h;cases h) (G _ _ h3)) b5⟩
end
end
section
section
variable {P:Program}{ty:Ty}{C:Nat->Option aE}{ih:cV}{η η':Env}{T:Tr V}{H H' Hx H0:Hp}{n n':K}{w w' w0 w2:World}{tmps dc:Array Value}{ds jQ:List Deferred}{fr:Frame}{cs:List Frame}{k:List Item}
 {rid:Nat}{o0:Oper}{rest:List Oper}{c2:Code}{ops:Array Oper}{kb m:K}{Lb Lm:Loc}{es:List (V×V×Nat)}{bp c0 t:Nat}{seen:Array Nat}
def Trans.from(kept:Kept (lQ η H true) w0 w)(c:∀mm b,lQ η Hx mm b->lQ η H mm b)(a:Trans (WW ty) η Hx n w η' H' n' w'):Trans (WW ty) η H n w0 η' H' n' w' where
 ext:=a.ext
 le:=a.le
 rep:=a.rep
 kept:=
  {os:=a.kept.os.trans kept.os
   tape:=a.kept.tape.trans kept.tape
   output:=a.kept.output.trans kept.output
   size:=eF kept.size a.kept.size
   block:=λb hb d=>by rw[a.kept.block b (eE hb kept.size) λe=>d (c _ _ e),kept.block b hb d]
   loops:=λb r hb=>let⟨r',h1⟩:=kept.loops b r hb;a.kept.loops b r' h1}
 ka:=λmm b hb=>by
  rcases a.ka mm b hb with h1 | h1
  ·exact .inl (c _ _ h1)
  ·exact .inr (eF kept.size h1)
 bC:=a.bC
def rG.Sz(X:rG P ty η H H0 kb m Lb Lm es bp)(mm:Bool)(b:Nat)(h:lQ η H0 mm b):lQ η H mm b:=let⟨q,o,L,h1,h2⟩:=h;⟨q,o,L,X.sub q o h1,h2⟩
def rG.JV(X:rG P ty η H H0 kb m Lb Lm es bp)(mm:Bool)(b:Nat)(h:lQ η (H0.put (some (.me m bp t)) kb) mm b):lQ η H mm b:=by
 obtain⟨q,o,L,h1,h2,a,c⟩:=h;rw[Tr.fk]at h1;by_cases e:q=kb
 ·rw[ab e]at h1;injection h1 with h1;subst h1;subst e;obtain⟨ob,g1,d⟩:=X.get;exact⟨q,ob,L,g1,λ_=>d,a,c⟩
 ·rw[Γ e]at h1;exact⟨q,o,L,X.sub q o h1,h2,a,c⟩
def rG.SA(X:rG P ty η H H0 kb m Lb Lm es bp):¬ lQ η (H0.put (some (.me m bp t)) kb) true Lb.blk:=by
 rintro⟨q,o,L,h1,h2,a,b⟩;rw[Tr.fk]at h1;by_cases e:q=kb
 ·rw[ab e]at h1;injection h1 with h1;subst h1;cases h2 rfl
 ·rw[Γ e]at h1;exact X.apart q o L h1 a b
def wu.again(X:rG P ty η H H0 kb m Lb Lm es bp)(I:wu ty η H H0 n T w0 fr Lb Lm bp w tmps ds seen c0)(c:Kept (lQ η H true) w0 w2)
 (d:w2.heap[Lb.blk]?=some (.mapIter (some Lm.blk) bp (seen.push t) bp))(f:Marks w0.heap.size η (H0.put (some (.me m bp t)) kb) w2 ds fr.defers)
 (a:Trans (WW ty) η (H0.put (some (.me m bp t)) kb) n w2 η' H' n' w')(g:dc.size=fr.tmps.size){T':Tr V}(i:aK η' T' dc)(mk:Marks w2.heap.size η' H' w' jQ ds)
 (j:∀q v,T.get q=some v->T'.get q=some v)(hs:∀q o,H0.get q=some o->H'.get q=some o):wu ty η H H0 n T w0 fr Lb Lm bp w' dc jQ (seen.push t) bp:=by
 have l:∀q o,H0.get q=some o->mC n o/\q.num<n.num:=λq o e=>⟨let⟨L,_,_,h⟩:=I.rep.obj q o e;h.below I.rep.free,I.rep.xC e⟩;have p:Lb.blk<w2.heap.size:=(mU.1 d).1;refine⟨af7 a I.rep.free l hs,?_,ξ _,?_,g,af8 a I.rep.free (λq v hv=>i q v (j _ _ hv)) (λq v hv=>let⟨y,_,h⟩:=I.jj q v hv;h.kF I.rep.free),?_⟩
 ·rw[a.kept.block _ p X.SA];exact d
 ·have:=Trans.from c (λmm b=>X.JV mm b) a;exact this.kept
 ·obtain⟨bs,h1,h2,r⟩:=f.next a mk c.size;refine⟨bs,h1,h2,λb hb=>?_⟩;obtain⟨s,u,x⟩:=r b hb;refine⟨s,u,λ⟨q,o,L,b1,b2,b3,b4⟩=>x ⟨q,o,L,hs q o b1,b2,a.ext _ _ b3,b4⟩⟩
def JW(p:Good P ty C)(q:kE P ty ih)(hm:fr.mode=.run){f:Option Tmp}{s:Operand}{rt:TypeId}{pos:String}{after:Array Edge}(i:o0=⟨f,.next s false,rt,pos,after,none⟩)
 (j:ij fr.tmps.size (o0::rest)=true)(v:within fr.tmps.size c2=true){r:R}(a:wo ih (f.map bF) (cE ty ⟨o0::rest⟩ rest []) (bV ty c2) T H0 n=some r)
 (x:(execOp (ai tmps) o0).run P w=.ok (.value (.tuple #[.bool false])) w)(y:aK η T tmps)(l:tmps.size=fr.tmps.size)(z:bM η ty.g)(A:aU (WW ty) η H0 n w)(hl:jV fr w):
 r.ex≠.normal/\∃η' dc jQ w',Trans (WW ty) η H0 n w η' r.H r.n w'/\dc.size=fr.tmps.size/\aK η' r.T dc/\Marks w.heap.size η' r.H w' jQ ds/\iV P η' (lone (put fr tmps ds (.code (.seq (.region rid ⟨o0::rest⟩ false) c2)::k)) cs w) fr cs k r.ex dc jQ w':=by
 unfold wo at a;split at a
 case h_2=>cases a
 rename_i T1 v1 H1 n1 B;have o:r.ex≠.normal/\ih (.code (bV ty c2) T1) H1 n1=some r:=by
  split at a
  ·cases a
  ·rename_i D;refine⟨λe=>?_,a⟩;obtain⟨ex,T2,I,H2,J⟩:=r;simp only at e;subst e;exact D _ _ _ _ a
 have E:∀d,o0.dst=some d->d<tmps.size:=λd F=>by rw[l];exact JM j o0 (by simp) d F
 have qN:o0.dst=f:=by rw[i]
 have G:aK η (da (f.map bF) (some (.u [.b false])) T) (jo o0.dst (.tuple #[.bool false]) tmps):=by rw[←qN];exact y.jo E (.u _ _ (.cons _ _ _ _ (.b _) .nil))
 obtain⟨η',dc,jQ,w',b1,b2,b3,b4,b5⟩:=Su (cs:=cs) (k:=k) (ds:=ds) p q hm j v B o.2 G (by rw[B4];exact l) z A hl;exact⟨o.1,η',dc,jQ,w',b1,b2,b3,b4,.of_steps (Ss hm (by rw[i]) (λc h=>by rw[i]at h;cases h) x) b5⟩
def Trans.sub(h:aU (WW ty) η' H' n' w')(hs:∀q o,H0.get q=some o->H'.get q=some o):Trans (WW ty) η' H' n' w' η' H0 n' w':=
 ⟨.refl _,ξ _,h.less hs,.refl _ _,λm b ⟨k',o,L,h1,h2,a,c⟩=>.inl ⟨k',o,L,hs _ _ h1,h2,a,c⟩,λ_ _=>rfl⟩
def SC(f:Good P ty C)(i:kE P ty ih)(hm:fr.mode=.run){a:Option Tmp}{W:Operand}{rt:TypeId}{pos:String}{after:Array Edge}(j:o0=⟨a,.next W false,rt,pos,after,none⟩)
 (p:ij fr.tmps.size (o0::rest)=true)(s:within fr.tmps.size c2=true){x:ao}(Y:br ty W=some x)(X:rG P ty η H H0 kb m Lb Lm es bp)(u:bM η ty.g)(hl:jV fr w0)(Z:m7 T x kb=true)
 {r:R}(NB:∀e∈es,wq (gS ih (a.map bF) (cE ty ⟨o0::rest⟩ rest []) (bV ty c2) kb m bp T H0 n) T H0 e\/(yb (gS ih (a.map bF) (cE ty ⟨o0::rest⟩ rest []) (bV ty c2) kb m bp T H0 n) H0 n r.T e/\r.ex=.ret/\r.H=H0/\r.n=n))
 (d:wo ih (a.map bF) (cE ty ⟨o0::rest⟩ rest []) (bV ty c2) T H0 n=some r\/∃e∈es,yb (gS ih (a.map bF) (cE ty ⟨o0::rest⟩ rest []) (bV ty c2) kb m bp T H0 n) H0 n r.T e):
 ∀(y:Nat) (w:World) (tmps:Array Value) (ds:List Deferred) (seen:Array Nat) (c0:Nat),wu ty η H H0 n T w0 fr Lb Lm bp w tmps ds seen c0->(∀e∈es,seen.contains e.2.2=true->wq (gS ih (a.map bF) (cE ty ⟨o0::rest⟩ rest []) (bV ty c2) kb m bp T H0 n) T H0 e)->(es.map (·.2.2)).countP (λt=>!seen.contains t)<=y->∃η' dc jQ w',Trans (WW ty) η H n w0 η' r.H r.n w'/\dc.size=fr.tmps.size/\aK η' r.T dc/\Marks w0.heap.size η' r.H w' jQ fr.defers/\iV P η' (lone (put fr tmps ds (.code (.seq (.region rid ⟨o0::rest⟩ false) c2)::.inLoop (.seq (.region rid ⟨o0::rest⟩ false) c2)::k)) cs w) fr cs k r.ex dc jQ w':=by
 have sm:∀e∈es,∃F,gS ih (a.map bF) (cE ty ⟨o0::rest⟩ rest []) (bV ty c2) kb m bp T H0 n e=some F:=λe he=>by rcases NB e he with ⟨T',v,H',n',h,_⟩ | ⟨⟨T',v,H',h,_⟩,_⟩<;>exact⟨_,h⟩
 have SD:∀e T0,wq (gS ih (a.map bF) (cE ty ⟨o0::rest⟩ rest []) (bV ty c2) kb m bp T H0 n) T H0 e->yb (gS ih (a.map bF) (cE ty ⟨o0::rest⟩ rest []) (bV ty c2) kb m bp T H0 n) H0 n T0 e->False:=by rintro e T0 ⟨T',v,H',n',h,_⟩ ⟨T2,v2,H2,h2,_⟩;rw[h]at h2;injection h2 with h2;injection h2 with h2;cases h2
 intro y
 induction y with
 | zero=>
  intro w tmps ds seen c0 I z agc;have h0:(es.map (·.2.2)).countP (λt=>!seen.contains t)=0:=by omega
  rw[List.countP_eq_zero]at h0;have ff:∀e∈es,seen.contains e.2.2=true:=λe he=>by have:=h0 e.2.2 (List.mem_map.2 ⟨e,he,rfl⟩);simpa using this
  rcases JR (cs:=cs) (rid:=rid) (k:=.inLoop (.seq (.region rid ⟨o0::rest⟩ false) c2)::k) f i hm j p s Y X I u hl Z sm with ⟨h1,h2⟩ | ⟨e,F,w2,η',dc,jQ,w',h1,h2,G⟩
  ·rcases d with d | ⟨e,he,J⟩
   ·have L:jV fr w:=λl M=>let⟨q,N⟩:=hl l M;I.kept.loops l q N;obtain⟨O,η',dc,jQ,w',b1,b2,b3,b4,b5⟩:=JW (cs:=cs) (rid:=rid) (k:=.inLoop (.seq (.region rid ⟨o0::rest⟩ false) c2)::k) (ds:=ds) f i hm j p s d h2 I.jj I.size u I.rep L;exact⟨η',dc,jQ,w',.from I.kept X.Sz b1,b2,b3,I.marks.next b1 b4 I.kept.size,.pass (by intro id h;cases h) O b5⟩
   ·exact(SD e _ (z e he (ff e he)) J).elim
  ·exfalso;rw[ff e h1]at h2;cases h2
 | succ y iW=>
  intro w tmps ds seen c0 I z agc;rcases JR (cs:=cs) (rid:=rid) (k:=.inLoop (.seq (.region rid ⟨o0::rest⟩ false) c2)::k) f i hm j p s Y X I u hl Z sm with ⟨h1,h2⟩ | ⟨e,F,w2,η',dc,jQ,w',h1,h2,G,g1,Q,g3,g4,A,g6,g7,g8,g9⟩
  ·rcases d with d | ⟨e,he,J⟩
   ·have L:jV fr w:=λl M=>let⟨q,N⟩:=hl l M;I.kept.loops l q N;obtain⟨O,η',dc,jQ,w',b1,b2,b3,b4,b5⟩:=JW (cs:=cs) (rid:=rid) (k:=.inLoop (.seq (.region rid ⟨o0::rest⟩ false) c2)::k) (ds:=ds) f i hm j p s d h2 I.jj I.size u I.rep L;exact⟨η',dc,jQ,w',.from I.kept X.Sz b1,b2,b3,I.marks.next b1 b4 I.kept.size,.pass (by intro id h;cases h) O b5⟩
   ·rw[List.countP_eq_zero]at h1;have:=h1 e.2.2 (List.mem_map.2 ⟨e,he,rfl⟩);exact(SD e _ (z e he (by simpa using this)) J).elim
  ·rcases NB e h1 with S | ⟨⟨T',v,H',c,B,D⟩,r1,r2,r3⟩
   ·obtain⟨T',v,H',n',c,B,D⟩:=S;have S:wq (gS ih (a.map bF) (cE ty ⟨o0::rest⟩ rest []) (bV ty c2) kb m bp T H0 n) T H0 e:=⟨T',v,H',n',c,B,D⟩;rw[G]at c;injection c with c;subst c;have I':=I.again X Q g3 g4 A g6 g7 g8 B D;have hc:(es.map (·.2.2)).countP (λt=>!(seen.push e.2.2).contains t)<(es.map (·.2.2)).countP (λt=>!seen.contains t):=by
     refine Sb (λx hx=>?_) (List.mem_map.2 ⟨e,h1,rfl⟩) (by rw[h2];rfl) (by simp);simp at hx ⊢;exact hx.1
    obtain⟨η2,t2,d2,w3,b1,b2,b3,b4,b5⟩:=iW w' dc jQ (seen.push e.2.2) bp I' (λE uy hs=>by
     by_cases U:seen.contains E.2.2=true
     ·exact z E uy U
     ·have:E.2.2=e.2.2:=by
       simp at hs U;rcases hs with hs | hs
       ·exact absurd hs U
       ·exact hs
      rw[(Sf X.stamps).2 E uy e h1 this];exact S) (by omega)
    exact⟨η2,t2,d2,w3,b1,b2,b3,b4,.of_steps (Steps.trans g9 (.one (Iy hm))) b5⟩
   ·
    rw[G]at c;injection c with c;subst c;have hs:∀q o,H0.get q=some o->H'.get q=some o:=B;have t1:=Trans.from Q (λmm b=>X.JV mm b) A;have G9:=g4.next A g8 Q.size;have tl:=Trans.sub A.rep hs;refine⟨η',dc,jQ,w',?_,g6,λt v h=>g7 t v (D _ v h),?_,?_⟩
    ·rw[r2,r3];exact t1.trans tl
    ·rw[r2];exact G9.trans tl
    ·rw[r1];exact .pass (by intro id h;cases h) (by intro h;cases h) g9
def agd(J:Good P ty C)(M:kE P ty ih)(DQ:Aa ih)(c:Code)(d:Option K)(x:ao)(l:List AO)(b:AC)(ws:List K)(T:Tr V)(H:Hp)(n:K)(r:R)(hk:pe ty (bV ty c) c=.jC d x l b ws)
 (hr:aS (λ_=>none) ih (.code (.jC d x l b ws) T) H n=some r)(η:Env)(w:World)(fr:Frame)(cs:List Frame)(k:List Item)(hw:within fr.tmps.size (.loop c)=true)
 (hT:aK η T fr.tmps)(N:bM η ty.g)(hH:aU (WW ty) η H n w)(hm:fr.mode=.run)(hl:jV fr w):
 ∃η' tmps ds w',Trans (WW ty) η H n w η' r.H r.n w'/\tmps.size=fr.tmps.size/\aK η' r.T tmps/\Marks w.heap.size η' r.H w' ds fr.defers/\iV P η' (lone (put fr fr.tmps fr.defers (.code (.loop c)::k)) cs w) fr cs k r.ex tmps ds w':=by
 have JO:=afT hk;obtain⟨rid,i,j,rt,pos,after,rest,c2,rfl,rfl,O,rfl,rfl⟩:=afS hk;have p:within fr.tmps.size (.seq (.region rid ⟨⟨i,.next j false,rt,pos,after,none⟩::rest⟩ false) c2)=true:=hw;simp only[within,aD]at p;obtain⟨kb,m,since,es,bp,hx,hb,wS,rfl,cA,age⟩:=afO hr;obtain⟨Lb,Yn,lb2,lb3,Lm,lb4,lb5⟩:=hH.obj kb _ hb;have aG:m≠kb:=λe=>by rw[e,hb]at wS;cases wS
 have X:rG P ty η H (H.put none kb) kb m Lb Lm es since:=by
  have hs:∀q o,(H.put none kb).get q=some o->H.get q=some o:=λq o f=>by
   rw[Tr.fk]at f;split at f
   ·cases f
   ·exact f
  refine⟨hs,⟨_,hb,rfl⟩,Tr.xA _ _ _,by rw[Tr.tY _ _ aG];exact wS,Yn,lb4,lb3,λq o L f hL=>?_,cA⟩;have hqk:kb≠q:=λe=>by rw[←e,Tr.xA]at f;cases f
  exact λe=>hH.sep kb q _ o Lb L hqk hb rfl (hs q o f) Yn hL e.symm
 have start:∀T0:Tr V,(∀q v,T0.get q=some v->T.get q=some v)->wu ty η H (H.put none kb) n T0 w fr Lb Lm since w fr.tmps fr.defers #[] since:=λT0 h0=>
  ⟨hH.less X.sub,lb5,ξ _,.refl _ _,rfl,λq v hv=>hT q v (h0 _ _ hv),.refl _ _ _ _ _⟩
 have A:Steps P (lone (put fr fr.tmps fr.defers (.code (.loop (.seq (.region rid ⟨⟨i,.next j false,rt,pos,after,none⟩::rest⟩ false) c2))::k)) cs w)
  (lone (put fr fr.tmps fr.defers (.code (.seq (.region rid ⟨⟨i,.next j false,rt,pos,after,none⟩::rest⟩ false) c2)::.inLoop (.seq (.region rid ⟨⟨i,.next j false,rt,pos,after,none⟩::rest⟩ false) c2)::k)) cs w):=.one (E8 hm)
 rcases age with ⟨e,rfl,h⟩ | ⟨h1,q,h2,a⟩
 ·
  have I:=start T (λ_ _ h=>h);have Cu:m7 T x kb=true:=by unfold m7;rw[hx];exact K.beq_refl _
  unfold Ct at h;cases Q:gS ih (i.map bF) (cE ty ⟨⟨i,.next j false,rt,pos,after,none⟩::rest⟩ rest []) (bV ty c2) kb m since T (H.put none kb) n e with
  | none=>rw[Q]at h;cases h
  | some rr=>
   rw[Q]at h;rcases JR (cs:=cs) (rid:=rid) (k:=.inLoop (.seq (.region rid ⟨⟨i,.next j false,rt,pos,after,none⟩::rest⟩ false) c2)::k) J M hm rfl p.1 p.2 O X I N hl Cu (λs uy=>by
    have:s=e:=by simpa using uy
    subst this;exact⟨rr,Q⟩) with ⟨h1,h2⟩ | ⟨s,rr',w2,η',dc,jQ,w',h1,h2,a,g1,g2,g3,g4,z,S,D,g8,U⟩
   ·exfalso;simp at h1
   ·have he:s=e:=by simpa using h1
    subst he;rw[Q]at a;injection a with a;subst a;have aun:=g2;have B:=Trans.from g2 (λmm b=>X.JV mm b) z;have W:=g4.next z g8 g2.size;obtain⟨ex,T1,v1,H1,n1⟩:=rr;cases ex with
    | exit id=>
     injection h with h;subst h;exact⟨η',dc,jQ,w',B,S,D,W,.of_steps A (.pass (by intro id h;cases h) (by intro h;cases h) U)⟩
    | ret=>
     injection h with h;subst h;exact⟨η',dc,jQ,w',B,S,D,W,.of_steps A (.pass (by intro id h;cases h) (by intro h;cases h) U)⟩
    | panic u=>
     injection h with h;subst h;exact⟨η',dc,jQ,w',B,S,D,W,.of_steps A (.pass (by intro id h;cases h) (by intro h;cases h) U)⟩
    | normal=>
     simp only at h;split at h
     case h_2=>cases h
     rename_i _ _ _ k' v' t' agi e1 e2;cases Y:Nat.beq since agi&&Nat.beq t' s.2.2&&m7 T1 x kb with
     | false=>rw[Y]at h;cases h
     | true=>
      rw[Y]at h;simp only[cond_true]at h;simp only[aD]at Y;obtain⟨⟨Yo,Z⟩,wT⟩:=Y;have Yo:=bY Yo;have Z:=bY Z;subst Yo;have ω:Lb.blk<w2.heap.size:=(mU.1 g3).1;have it':w'.heap[Lb.blk]?=some (.mapIter (some Lm.blk) since ((#[]:Array Nat).push s.2.2) since):=by rw[z.kept.block _ ω X.SA];exact g3
      obtain⟨fj,m1,m2⟩:=xJ z.rep e2 (z.ext _ _ lb4);have agj:s.2.2<since:=Sw cA s (by simp);have hold:∀y∈fj.toList,y.born<since:=λy hy=>by obtain⟨_,_,hh,_⟩:=m2.mem y hy;simp only[gF,Prod.mk.injEq]at hh;rw[hh.2.2,Z];exact agj
      have hG':=N.mono z.ext;have yP:=Sy O wT D hG' (z.ext _ _ Yn) lb3;have agl:(leftOf fj ((#[]:Array Nat).push s.2.2)).size=0:=by rw[Sx,m2.JQ];simp[Z]
      have vF:(execOp (ai dc) ⟨i,.next j false,rt,pos,after,none⟩).run P w'=.ok (.value (.tuple #[.bool false])) w':=by
       rcases run_next_at w' rt Lb.blk Lm.blk since since _ fj since it' m1 hold (ξ _) with ⟨_,h2⟩ | ⟨e2,h1,_⟩
       ·show(do pure (.value (←Instr.next (ai dc j) false rt)):Sem Next).run P w'=_;rw[yP];show(Sem.bind _ _).run P w'=_;rw[Sem.run_bind',h2];rfl
       ·exfalso;have:leftOf fj ((#[]:Array Nat).push s.2.2)=#[]:=Array.eq_empty_of_size_eq_zero agl;rw[this]at h1;cases h1
      have mL:jV fr w':=λl iF=>let⟨q,f⟩:=hl l iF;B.kept.loops l q f;have tl:=Trans.less z.rep kb;obtain⟨mH,E,F,G,w3,b1,b2,b3,b4,b5⟩:=JW (cs:=cs) (rid:=rid) (k:=.inLoop (.seq (.region rid ⟨⟨i,.next j false,rt,pos,after,none⟩::rest⟩ false) c2)::k) (ds:=jQ) J M hm rfl p.1 p.2 h vF D S hG' tl.rep mL;exact⟨E,F,G,w3,(B.trans tl).trans b1,b2,b3,(W.trans tl).next b1 b4 B.kept.size,.of_steps (Steps.trans A (Steps.trans U (.one (Iy hm)))) (.pass (by intro id h;cases h) mH b5)⟩
 ·have I:=start (erase T ws) (λq v h=>Se ws T q v h);have nos:∀e∈es,(#[]:Array Nat).contains e.2.2=true->wq (gS ih (i.map bF) (cE ty ⟨⟨i,.next j false,rt,pos,after,none⟩::rest⟩ rest []) (bV ty c2) kb m since (erase T ws) (H.put none kb) n) (erase T ws) (H.put none kb) e:=λe _ h=>by simp at h
  have f:((cE ty ⟨⟨i,.next j false,rt,pos,after,none⟩::rest⟩ rest []).all (λo=>AP o.op)&&quiet (bV ty c2))=true->∀e r,gS ih (i.map bF) (cE ty ⟨⟨i,.next j false,rt,pos,after,none⟩::rest⟩ rest []) (bV ty c2) kb m since (erase T ws) (H.put none kb) n e=some r->_:=λf e r hr=>afR DQ (JO (by simp only[aD]at f;exact f.2)) (Tr.xA _ _ _) (λq v hv=>afQ hv) f hr;rcases afP f h2 with ⟨rfl,g⟩ | ⟨T0,rfl,g,g'⟩
  ·rcases a with ⟨_,a⟩ | ⟨T0,a,_⟩
   ·obtain⟨E,F,G,w3,b1,b2,b3,b4,b5⟩:=SC (cs:=cs) (rid:=rid) (k:=k) J M hm rfl p.1 p.2 O X N hl h1 (λe he=>.inl (g e he)) (.inl a) _ w fr.tmps fr.defers #[] since I nos (ξ _);exact⟨E,F,G,w3,b1,b2,b3,b4,.of_steps A b5⟩
   ·cases a
  ·rcases a with ⟨a,_⟩ | ⟨T1,a,rfl⟩
   ·cases a
   ·injection a with a;subst a;obtain⟨E,F,G,w3,b1,b2,b3,b4,b5⟩:=SC (r:=⟨.ret,T0,.q,H.put none kb,n⟩) (cs:=cs) (rid:=rid) (k:=k) J M hm rfl p.1 p.2 O X N hl h1 (λe he=>(g e he).imp id λh=>⟨h,rfl,rfl,rfl⟩) (.inr g') _ w fr.tmps fr.defers #[] since I nos (ξ _);exact⟨E,F,G,w3,b1,b2,b3,b4,.of_steps A b5⟩
end
end
end Go.Ev
namespace Go.Ev
open Go
section
section ops
variable {P:Program}{ty:Ty}{C:Nat->Option aE}{W:Nat->Code->AC->Prop}{ih:cV}{η η':Env}{T:Tr V}{H H':Hp}{n n':K}{w w':World}{v:V}{tmps:Array Value}{ds:List Deferred}{fr:Frame}{cs:List Frame}{k:List Item}
def JX{N M:Nat}(j:N<=M):∀c,within N c=true->within M c=true:=by
 have i:∀l,ij N l=true->ij M l=true:=by
  intro l
  induction l with
  | nil=>intro _;rfl
  | cons o l ih=>
   intro h;simp only[ij,aD]at h ⊢;refine⟨?_,ih h.2⟩;have h1:=h.1;split at h1
   ·rename_i d i;rw[fF,cC]at h1 ⊢;omega
   ·rfl
 have hb:∀l,m9 N l=true->m9 M l=true:=by
  intro l
  induction l with
  | nil=>intro _;rfl
  | cons d l ih=>
   intro h;simp only[m9,aD]at h ⊢;refine⟨?_,ih h.2⟩;have h1:=h.1;rw[fF,cC]at h1 ⊢;omega
 intro c
 induction c with
 | region id ops m=>exact i _
 | seq a b e g=>intro h;simp only[within,aD]at h ⊢;exact⟨e h.1,g h.2⟩
 | cond x a b e g=>intro h;simp only[within,aD]at h ⊢;exact⟨e h.1,g h.2⟩
 | block id a e=>exact e
 | loop a e=>exact e
 | scope a e=>exact e
 | rangeFunc f ps a b e g=>intro h;simp only[within,aD]at h ⊢;exact⟨⟨hb _ h.1.1,e h.1.2⟩,g h.2⟩
 | _=>intro _;rfl
def agn{ds0:List Deferred}:∀(bs:List Nat) (w':World),fr.mode≠.run->Trans W η H n w η' H' n' w'->(∀b∈bs,w.heap.size<=b/\w'.heap[b]?=some (.deferred (some [])))->bs.Nodup->∃a,Steps P (lone { fr with defers:=bs.map (λb=>{ target:=.collected b,args:=#[]})++ds0} cs w') (lone { fr with defers:=ds0} cs a)/\Trans W η H n w η' H' n' a:=by
 intro bs
 induction bs with
 | nil=>intro w' hm ht _ _;exact⟨w',.refl _ _,ht⟩
 | cons b bs ih=>
  intro w' hm ht hb c;obtain⟨h1,h2⟩:=hb b (by simp);have f:=ht.deferred (d':=none) h2 h1;obtain⟨a,g,h⟩:=ih _ hm f (λq d=>by
   obtain⟨g1,i⟩:=hb q (by simp[d]);refine⟨g1,?_⟩;have j:b≠q:=λe=>by rw[e]at c;exact(List.nodup_cons.1 c).1 d
   show(w'.heap.setIfInBounds b (.deferred none))[q]?=_;rw[gj,Γ j];exact i) (List.nodup_cons.1 c).2
  exact⟨a,Steps.head (Qx (bs:=bs) hm h2) g,h⟩
def ago{ops:Array Oper}{i:Nat}{rest:List Nat}{o:Oper}{c:Call}{d:Deferred}(hm:fr.mode=.run)(b:fr.roundOf=none)(a:ops[i]?=some o)(e:o.op=.defer c)(f:o.guard=none)
 (g:(resolve (ai tmps) c o.type).run P w=.ok d w):
 step P (lone (put fr tmps ds (.inRegion ops (i::rest)::k)) cs w)=.next (lone (put fr (jo o.dst undef tmps) (d::ds) (.inRegion ops rest::k)) cs w):=by
 obtain⟨fn,l,todo,defers,mode,kind,roundOf⟩:=fr;simp only at hm b;subst hm;subst b;have h:Region.wanted o (yielded ops tmps)=true:=by unfold Region.wanted;rw[f]
 have j:Frame.eval { fn,tmps,todo:=.inRegion ops (i::rest)::k,defers:=ds,mode:=.run,kind,roundOf:=none}=ai tmps:=by rw[eval_eq]
 have hex:(execOp (ai tmps) o).run P w=.ok (.defer d) w:=by obtain⟨dst,op,rt,pos,after,m⟩:=o;subst e;show(do pure (.defer (←resolve (ai tmps) c rt)):Sem Next).run P w=_;show(Sem.bind _ _).run P w=_;rw[Sem.run_bind',g];rfl
 refine ic ?_;simp only[put,stepG,stepG.exec,a,ox,Option.getD_some,h,if_true];have:stepG.oper P true { fn,tmps,todo:=.inRegion ops (i::rest)::k,defers:=ds,mode:=.run,kind,roundOf:=none} cs none w=
  stepG.apply P true { fn,tmps,todo:=.inRegion ops (i::rest)::k,defers:=ds,mode:=.run,kind,roundOf:=none} cs none (execOp (ai tmps) o) w:=by
  simp only[stepG.oper,Frame.oper?,a,j]
 rw[this];simp only[stepG.apply,Sem.runT_eq,hex,GStep.bare_after];simp only[Frame.finish,a,zt];rfl
def found(caller:Frame)(x:Value)(a:Frame):Prop:=
 (caller.mode=.returning/\x=.nilIface/\a=caller)\/
 (caller.mode=.panicking [{ v:=x,recovered:=false}]/\a={ caller with mode:=.panicking [{ v:=x,recovered:=true}]})
def agp{ops:Array Oper}{i:Nat}{rest:List Nat}{o:Oper}{a:Array Operand}{t:Array TypeId}{caller c:Frame}{x:Value}(hm:fr.mode=.run)(d:fr.kind=.deferred)(e:fr.roundOf=none)(b:ops[i]?=some o)(f:o.op=.call ⟨.builtin .recover,a,t⟩)(g:o.guard=none)
 (hf:found caller x c):
 step P (lone (put fr tmps ds (.inRegion ops (i::rest)::k)) (caller::cs) w)=.next (lone (put fr (jo o.dst x tmps) ds (.inRegion ops rest::k)) (c::cs) w):=by
 obtain⟨fn,l,todo,defers,mode,kind,roundOf⟩:=fr;simp only at hm e d;subst hm;subst e;subst d;have h:Region.wanted o (yielded ops tmps)=true:=by unfold Region.wanted;rw[g]
 have j:Frame.eval { fn,tmps,todo:=.inRegion ops (i::rest)::k,defers:=ds,mode:=.run,kind:=.deferred,roundOf:=none}=ai tmps:=by rw[eval_eq]
 have hex:(execOp (ai tmps) o).run P w=.ok .recover w:=by obtain⟨dst,op,rt,pos,after,m⟩:=o;subst f;rfl
 refine ic ?_;simp only[put,stepG,stepG.exec,b,ox,Option.getD_some,h,if_true];have:stepG.oper P true { fn,tmps,todo:=.inRegion ops (i::rest)::k,defers:=ds,mode:=.run,kind:=.deferred,roundOf:=none} (caller::cs) none w=
  stepG.apply P true { fn,tmps,todo:=.inRegion ops (i::rest)::k,defers:=ds,mode:=.run,kind:=.deferred,roundOf:=none} (caller::cs) none (execOp (ai tmps) o) w:=by
  simp only[stepG.oper,Frame.oper?,b,j]
 rw[this];simp only[stepG.apply,Sem.runT_eq,hex,GStep.bare_after];rcases hf with ⟨h1,rfl,rfl⟩ | ⟨h1,rfl⟩
 ·simp only[tryRecover,h1];simp only[Frame.finish,b,zt];rfl
 ·simp only[tryRecover,h1];simp only[Frame.finish,b,zt];rfl
def agq{g:Nat}{cap:Array Value}{args:Array Value}{ds0:List Deferred}{a:Array Value}(hm:fr.mode≠.run)(b:fr.defers={ target:=.fn (.func g) cap,args}::ds0)(c:(invoke (.fn (.func g) cap) args).run P w=.ok (.enter g a) w):
 step P (lone fr cs w)=.next (lone (Frame.enter P g a .deferred) ({ fr with defers:=ds0}::cs) w):=by
 obtain⟨fn,d,todo,defers,mode,kind,roundOf⟩:=fr;simp only at hm b;subst b;refine ic ?_;cases mode with
 | run=>exact absurd rfl hm
 | _=>simp[stepG,unwind,callDeferred,Sem.runT_eq,c]
def ags{caller:Frame}{x:Value}{cf:Func}{y:Value}(hf:P.funcs[fr.fn]?=some cf)(hm:fr.mode=.returning)(b:fr.defers=[])(c:fr.kind=.deferred)(a:(results cf fr.tmps).run P w=.ok y w)
 (d:caller.mode=.returning\/caller.mode=.panicking [{ v:=x,recovered:=true}]):
 step P (lone fr (caller::cs) w)=.next (lone { caller with mode:=.returning} cs w):=by
 obtain⟨fn,f,todo,defers,mode,kind,roundOf⟩:=fr;simp only at hm b c hf a;subst b;subst c;subst hm;refine ic ?_;rcases d with h | h
 ·have e:({ caller with mode:=.returning}:Frame)=caller:=by rw[←h]
  simp[stepG,unwind,hf,a,doReturn,h,e]
 ·simp[stepG,unwind,hf,a,doReturn,h]
end ops
end
section
section ops
variable {P:Program}{ty:Ty}{C:Nat->Option aE}{W:Nat->Code->AC->Prop}{ih:cV}{η η':Env}{T:Tr V}{H H':Hp}{n n':K}{w w':World}{v:V}{tmps:Array Value}{ds:List Deferred}{fr:Frame}{cs:List Frame}{k:List Item}
def agt{fn:Func}{b:Nat->Option Func}{af:zw}(h:wa ty fn b=some af):
 ∃(e f i:Nat) (pre:Array Oper) (s:Tmp) (g:FuncId) (gM:Array Operand) (j l m:TypeId) (o p r:String) (t u x:Array Edge) (y z:Array TypeId) (A:Array Operand) (rest a:Code) (q:Tmp) (cf:Func) (rs:List AR) (c:List ao),fn.body=some (.seq (.region e pre false) (.seq (.region f ⟨[⟨some s,.makeFunc (.func g) ⟨[]⟩ gM,j,o,t,none⟩,⟨none,.defer ⟨.value (.tmp s),⟨[]⟩,y⟩,l,p,u,none⟩]⟩ false) rest))/\tX ty fn.results.toList=some rs/\oA ty gM.toList=some c/\b g=some cf/\cf.body=some (.seq (.region i ⟨[⟨some q,.call ⟨.builtin .recover,A,z⟩,m,r,x,none⟩]⟩ false) a)/\ij fn.ntmps pre.toList=true/\s<fn.ntmps/\within fn.ntmps rest=true/\q<cf.ntmps/\within cf.ntmps a=true/\cf.results.size=0/\af={ jj:=(List.range (fn.params.size+fn.nfree)).map bF,res:=rs,pre:=cE ty pre pre.toList [],HB:=bF s,g:=g,gM:=c,body:=bV ty rest,HC:=(List.range (cf.params.size+cf.nfree)).map bF,HD:=bF q,HE:=bV ty a}:=by
 unfold wa at h;split at h
 case h_2=>cases h
 rename_i B D;split at h
 case h_2=>cases h
 rename_i E F;split at h
 case h_2=>cases h
 rename_i G;simp only[gU]at h;split at h
 case isFalse=>cases h
 rename_i d;simp only[aD,fF,cC]at d;obtain⟨c1,c2,c3,c4,c5,c6,c7⟩:=d;injection h with h;have c1:=bY c1;subst c1;exact⟨_,_,_,_,_,_,_,_,_,_,_,_,_,_,_,_,_,_,_,_,_,_,_,_,_,B,D,E,F,G,c2,c3,c4,c5,c6,bY c7,h.symm⟩
def SE{g:Nat}{fn:Func}{body:Code}(c:P.funcs[g]?=some fn)(hb:fn.body=some body)(a:Array Value)(b:CallKind):
 Frame.enter P g a b={ fn:=g,tmps:=a++Array.replicate (fn.ntmps - a.size) undef,todo:=[.code body],defers:=[],mode:=.run,kind:=b}:=by
 simp[Frame.enter,c,hb]
def SF{vs:List V}{xs:List Value}{m:Nat}(b:aL η vs xs)(a:binds ((List.range m).map bF) vs .e=some T)(N:Nat):aK η T (xs.toArray++Array.replicate N undef):=by rw[vN]at a;refine IC _ xs 0 _ .e T b (λt v h=>by rw[Tr.gV]at h;cases h) (λj x hj=>?_) a;have c:=(cZ.1 hj).1;rw[eV];rw[Array.getElem?_append_left (by simpa using c)];simpa using hj
def SG{g:Nat}{fn:Func}{body:Code}(b:P.funcs[g]?=some fn)(hb:fn.body=some body)(c:(fn.name == "runtime.NumGoroutine")=false)(a:Array Value):(callFunc g a).run P w=.ok (.enter g a) w:=by
 have d:¬ fn.name = "runtime.NumGoroutine":=by simpa using c
 simp[callFunc,program,bind,Sem.bind,Sem.run,b,d,hb,pure]
def agv(hC:Good P ty C)(dU:kE P ty ih){g:Nat}{a c l:List V}{af:zw}(hg:C g=some (.xq af)){r:R}(i:aS C ih (.call (.f g a c) l) H n=some r):kD P ty (.call (.f g a c) l) H n r:=by
 intro η w j cs fv args tH jq hG hH;obtain⟨fn,cf,mO,qu,wI,kP,agw⟩:=hC.xq g af hg;obtain⟨i1,i2,i3,pre,s,g',gM,I,N,t3,J,O,p3,L,Q,e3,S,JY,a3,rest,M,q,cf',rs,BJ,nD,AX,agx,gh,G6,k2,k3,k4,k5,k6,k7,rfl⟩:=agt wI;simp only at kP gh;rw[kP]at gh;injection gh with gh;subst gh;simp only[aS,hg]at i;split at i
 case h_2=>cases i
 rename_i T0 oj;split at i
 case h_2=>cases i
 rename_i T1 v1 H1 n1 h0;split at i
 case h_2=>cases i
 rename_i cv hcv;split at i
 case h_1=>cases i
 case h_3=>cases i
 rename_i ex T2 v2 H2 n2 gW h1;split at i
 case h_2=>cases i
 rename_i Tc hTc;split at i
 case h_1=>cases i
 case h_2=>cases i
 case h_4=>cases i
 rename_i ex3 T3 v3 H3 n3 agy agz h3;split at i
 case h_2=>cases i
 rename_i v hv;injection i with i;subst i;refine⟨λ_=>?_,λu h=>by cases h⟩;cases tH with
 | f _ _ _ a' c' ha j3=>
 have iz:aL η (a++(l++c)) (a'++(args++c')):=ha.append (jq.append j3);generalize ff:a'++(args++c')=xs at iz;let D:Array Value:=xs.toArray;let tm:Array Value:=D++Array.replicate (fn.ntmps - D.size) undef;have xP:fn.ntmps<=tm.size:=by simp only[tm,xm,Array.size_replicate];omega
 have hT:aK η T0 tm:=SF iz oj _;let m:Frame:={ fn:=g,tmps:=tm,todo:=[],defers:=[],mode:=.run,kind:=.normal};have oD:(do let d←Deferred.ofValue (.func (.func g) ⟨a'⟩ ⟨c'⟩) args.toArray;invoke d.target d.args:Sem Next).run P w=.ok (.enter g D) w:=by
  have X9:(⟨a'⟩:Array Value)++args.toArray++(⟨c'⟩:Array Value)=D:=by apply jB;simp[D,←ff]
  have:(do let d←Deferred.ofValue (.func (.func g) ⟨a'⟩ ⟨c'⟩) args.toArray;invoke d.target d.args:Sem Next)=callFunc g ((⟨a'⟩:Array Value)++args.toArray++(⟨c'⟩:Array Value)):=rfl;rw[this,X9];exact SG mO nD qu D
 obtain⟨η1,p,t,g1,g2,g3,g4⟩:=Iw (fr:=m) (cs:=j::cs) (k:=[.code (.seq (.region i2 ⟨[⟨some s,.makeFunc (.func g') ⟨[]⟩ gM,I,J,L,none⟩,⟨none,.defer ⟨.value (.tmp s),⟨[]⟩,S⟩,N,O,Q,none⟩]⟩ false) rest)]) (ds:=[]) hC dU rfl
  (show ij tm.size pre.toList=true from JX xP (.region 0 pre false) k2) pre.toList 0 rfl η T0 H n w tm _ h0 hT rfl hG hH
 have s0:Steps P (lone (Frame.enter P g D .normal) (j::cs) w) (lone (put m p [] [.code (.seq (.region i2 ⟨[⟨some s,.makeFunc (.func g') ⟨[]⟩ gM,I,J,L,none⟩,⟨none,.defer ⟨.value (.tmp s),⟨[]⟩,S⟩,N,O,Q,none⟩]⟩ false) rest)]) (j::cs) t):=by
  rw[SE mO nD];have e:({ fn:=g,tmps:=D++Array.replicate (fn.ntmps - D.size) undef,todo:=[.code (.seq (.region i1 pre false) (.seq (.region i2 ⟨[⟨some s,.makeFunc (.func g') ⟨[]⟩ gM,I,J,L,none⟩,⟨none,.defer ⟨.value (.tmp s),⟨[]⟩,S⟩,N,O,Q,none⟩]⟩ false) rest))],defers:=[],mode:=.run,kind:=.normal}:Frame)=
   put m tm [] (.code (.seq (.region i1 pre false) (.seq (.region i2 ⟨[⟨some s,.makeFunc (.func g') ⟨[]⟩ gM,I,J,L,none⟩,⟨none,.defer ⟨.value (.tmp s),⟨[]⟩,S⟩,N,O,Q,none⟩]⟩ false) rest))::[]):=rfl
  rw[e];refine Steps.head (zP rfl) (Steps.head (B6 rfl) ?_);have dN:pre.toList.length=pre.size:=by simp
  rw[dN,←vN]at g4;exact g4
 have Yp:=hG.mono g1.ext;have SH:=zH g3 Yp agx hcv;have kO:s<p.size:=by rw[g2];exact eE k3 xP
 have e0:∀f:Operand->Value,(⟨[]⟩:Array Operand).map f=⟨[]⟩:=λf=>by apply jB;simp
 let X:Value:=.func (.func g') ⟨[]⟩ ⟨gM.toList.map (ai p)⟩;have agA:an η1 (.f g' [] cv) X:=.f _ _ _ _ _ .nil SH;let z:Array Value:=p.setIfInBounds s X;have JU:aK η1 (T1.put (some (.f g' [] cv)) (bF s)) z:=g3.set kO agA;let d:Deferred:={ target:=.fn (.func g') ⟨gM.toList.map (ai p)⟩,args:=⟨[]⟩};have s1:Steps P (lone (put m p [] [.code (.seq (.region i2 ⟨[⟨some s,.makeFunc (.func g') ⟨[]⟩ gM,I,J,L,none⟩,⟨none,.defer ⟨.value (.tmp s),⟨[]⟩,S⟩,N,O,Q,none⟩]⟩ false) rest)]) (j::cs) t)
  (lone (put m z [d] [.code rest]) (j::cs) t):=by
  refine Steps.head (zP rfl) (Steps.head (B6 rfl) ?_);show Steps P (lone (put m p [] (.inRegion _ [0,1]::[.code rest])) (j::cs) t) _;have cA:=B3 (P:=P) (cs:=j::cs) (w:=t) (fr:=put m p [] (.inRegion ⟨[⟨some s,.makeFunc (.func g') ⟨[]⟩ gM,I,J,L,none⟩,⟨none,.defer ⟨.value (.tmp s),⟨[]⟩,S⟩,N,O,Q,none⟩]⟩ [0,1]::[.code rest])) U U
   (o:=⟨some s,.makeFunc (.func g') ⟨[]⟩ gM,I,J,L,none⟩) U U (λc h=>by cases h)
  rw[eval_put]at cA;have mN:(execOp (ai p) ⟨some s,.makeFunc (.func g') ⟨[]⟩ gM,I,J,L,none⟩).run P t=.ok (.value X) t:=by
   have:gM.map (ai p)=⟨gM.toList.map (ai p)⟩:=by apply jB;simp
   show(Sem.pure (Next.value (.func (.func g') ((⟨[]⟩:Array Operand).map (ai p)) (gM.map (ai p))))).run P t=_;rw[this,e0];rfl
  have h1:=EY cA (λ_ _ _ _ h=>by cases h) (v:=X) (w':=t) ⟨.value X,t,mN,rfl,rfl⟩;rw[EX]at h1;refine Steps.trans h1 (Steps.head (ago (d:=d) U U (o:=⟨none,.defer ⟨.value (.tmp s),⟨[]⟩,S⟩,N,O,Q,none⟩) U U U ?_) (.one (EZ rfl)));have yP:ai z (.tmp s)=X:=by show z.getD s undef=X;simp[z,vM,kO]
  show(Deferred.ofValue (ai z (.tmp s)) ((⟨[]⟩:Array Operand).map (ai z))).run P t=_;rw[yP,e0];rfl
 have agB:z.size=tm.size:=by simp only[z,Array.size_setIfInBounds];exact g2
 obtain⟨η2,E,d3,w2,q1,q2,q3,⟨bs,m1,m2,m3⟩,Y⟩:=dU _ _ _ _ h1 η1 t (put m z [d] []) (j::cs) [] rest ⟨rfl,by show within z.size rest=true;rw[agB];exact JX xP rest k4⟩ JU Yp g1.rep U (by intro l h;cases h);have m1:d3=bs.map (λb=>{ target:=.collected b,args:=#[]})++[d]:=m1;subst m1;have leave:∃(todo:List Item) (F:FrameMode) (x:Value) (B:Frame),F≠.run/\an η2 ex.HJ x/\found { put m E [] todo with mode:=F} x B/\(B.mode=.returning\/B.mode=.panicking [{ v:=x,recovered:=true}])/\({ B with mode:=.returning}:Frame)={ put m E [] todo with mode:=.returning}/\Steps P (lone (put m z [d] [.code rest]) (j::cs) t) (lone { put m E (bs.map (λb=>{ target:=.collected b,args:=#[]})++[d]) todo with mode:=F} (j::cs) w2):=by
  cases ex with
  | normal=>exact⟨[],.returning,.nilIface,_,(by intro h;cases h),.ni,.inl ⟨rfl,rfl,rfl⟩,.inl U,rfl,Steps.trans Y (.one (returning rfl rfl))⟩
  | ret=>obtain⟨k1,Y⟩:=Y;exact⟨.code .ret::k1,.returning,.nilIface,_,(by intro h;cases h),.ni,.inl ⟨rfl,rfl,rfl⟩,.inl U,rfl,Steps.trans Y (.one (Fa rfl rfl))⟩
  | exit id=>exact(gW id rfl).elim
  | panic u=>obtain⟨k1,x,q6,Y⟩:=Y;exact⟨k1,.panicking [{ v:=x,recovered:=false}],x,_,(by intro h;cases h),q6,.inr ⟨rfl,rfl⟩,.inr U,rfl,Y⟩
 obtain⟨todo,F,x,B,hmd,hx,agD,rI,JZ,s2⟩:=leave;obtain⟨w3,s3,t3'⟩:=agn (P:=P) (cs:=j::cs) (ds0:=[d]) (fr:={ put m E [] todo with mode:=F}) bs w2 hmd q1 (λb hb=>⟨(m3 b hb).1,(m3 b hb).2.1⟩) m2;let cx:List Value:=gM.toList.map (ai p);have agF:(⟨[]⟩:Array Value)++(⟨gM.toList.map (ai p)⟩:Array Value)=cx.toArray:=by apply jB;simp[cx]
 have s4:Steps P (lone { put m E [d] todo with mode:=F} (j::cs) w3) (lone (Frame.enter P g' cx.toArray .deferred) ({ put m E [] todo with mode:=F}::j::cs) w3):=
  .one (agq (fr:={ put m E [d] todo with mode:=F}) (ds0:=[]) hmd rfl (by
   show(callFunc g' ((⟨[]⟩:Array Value)++(⟨gM.toList.map (ai p)⟩:Array Value))).run P w3=_;rw[agF];exact SG kP G6 agw _))
 let A:Array Value:=cx.toArray++Array.replicate (cf.ntmps - cx.toArray.size) undef;have SI:cf.ntmps<=A.size:=by simp only[A,xm,Array.size_replicate];omega
 have hcT:aK η2 Tc A:=SF (SH.mono q1.ext) hTc _;let G:Frame:={ fn:=g',tmps:=A,todo:=[],defers:=[],mode:=.run,kind:=.deferred};have agG:q<A.size:=eE k5 SI;have s5:Steps P (lone (Frame.enter P g' cx.toArray .deferred) ({ put m E [] todo with mode:=F}::j::cs) w3) (lone (put G (A.setIfInBounds q x) [] [.code M]) (B::j::cs) w3):=by
  rw[SE kP G6];have e:({ fn:=g',tmps:=cx.toArray++Array.replicate (cf.ntmps - cx.toArray.size) undef,todo:=[.code (.seq (.region i3 ⟨[⟨some q,.call ⟨.builtin .recover,a3,JY⟩,t3,p3,e3,none⟩]⟩ false) M)],defers:=[],mode:=.run,kind:=.deferred}:Frame)=
   put G A [] (.code (.seq (.region i3 ⟨[⟨some q,.call ⟨.builtin .recover,a3,JY⟩,t3,p3,e3,none⟩]⟩ false) M)::[]):=rfl
  rw[e];refine Steps.head (zP rfl) (Steps.head (B6 rfl) ?_);show Steps P (lone (put G A [] (.inRegion _ [0]::[.code M])) _ w3) _;exact Steps.head (agp rfl rfl rfl (o:=⟨some q,.call ⟨.builtin .recover,a3,JY⟩,t3,p3,e3,none⟩) U U U agD) (.one (EZ rfl))
 have agH:aK η2 (Tc.put (some ex.HJ) (bF q)) (A.setIfInBounds q x):=hcT.set agG hx;have hG2:=Yp.mono q1.ext;obtain⟨η3,Z,d4,w4,r1,r2,r3,⟨lV,Yq,m2',m3'⟩,r5⟩:=dU _ _ _ _ h3 η2 w3 (put G (A.setIfInBounds q x) [] []) (B::j::cs) [] M ⟨rfl,by show within (A.setIfInBounds q x).size M=true;rw[Array.size_setIfInBounds];exact JX SI M k6⟩ agH hG2 t3'.rep U (by intro l h;cases h);have Yq:d4=lV.map (λb=>{ target:=.collected b,args:=#[]}):=by simpa[G,put]using Yq
 subst Yq;have agJ:∃FG,Steps P (lone (put G (A.setIfInBounds q x) [] [.code M]) (B::j::cs) w3) (lone { put G Z (lV.map (λb=>{ target:=.collected b,args:=#[]})) FG with mode:=.returning} (B::j::cs) w4):=by
  cases ex3 with
  | normal=>exact⟨[],Steps.trans r5 (.one (returning rfl rfl))⟩
  | ret=>obtain⟨k1,r5⟩:=r5;exact⟨_,Steps.trans r5 (.one (Fa rfl rfl))⟩
  | exit id=>exact(agy id rfl).elim
  | panic u=>exact(agz u rfl).elim
 obtain⟨FG,s6⟩:=agJ;obtain⟨w5,s7,t5⟩:=Fb (P:=P) (cs:=B::j::cs) (fr:={ put G Z [] FG with mode:=.returning}) lV w4 (by intro h;cases h) r1 (λb hb=>⟨(m3' b hb).1,(m3' b hb).2.1⟩) m2'
 have agK:(results cf Z).run P w5=.ok (.tuple #[]) w5:=by
  have:cf.results=#[]:=Array.eq_empty_of_size_eq_zero k7;have e:results cf Z=(do let vs←cf.results.mapM (B7 Z);pure (if h:vs.size=1 then vs[0] else .tuple vs)):=rfl
  rw[e,this,Array.mapM_eq_mapM_toList];rfl
 have s8:Steps P (lone { put G Z [] FG with mode:=.returning} (B::j::cs) w5) (lone { put m E [] todo with mode:=.returning} (j::cs) w5):=by rw[←JZ];exact .one (ags (x:=x) (cf:=cf) kP rfl rfl rfl agK rI)
 have SJ:=((g1.trans t3').trans t5);obtain⟨y,DH,xR⟩:=IB hC.aC (q3.mono t5.ext) SJ.rep AX hv;refine⟨η3,y,w5,SJ,xR,.enter g D,w,oD,?_⟩;exact Steps.trans s0 (Steps.trans s1 (Steps.trans s2 (Steps.trans s3 (Steps.trans s4 (Steps.trans s5 (Steps.trans s6 (Steps.trans s7 (Steps.trans s8 (.one (step_leave_returned (fr:={ put m E [] todo with mode:=.returning}) ⟨rfl,rfl,rfl,fn,mO,DH⟩))))))))))
end ops
end
def J0(P:Program)(ty:Ty)(C:Nat->Option aE):Prop:=
 ∀g p,C g=some (.pm p)->∀(a c l:List V) (H:Hp) (n:K) (v:V) (H':Hp) (n':K),pm p (a++(l++c)) H n=some (v,H',n')->kD P ty (.call (.f g a c) l) H n ⟨.normal,.e,v,H',n'⟩
def SK{P:Program}{ty:Ty}{C:Nat->Option aE}(e:Good P ty C)(hp:J0 P ty C):∀f,kE P ty (ev C f)/\uw (ev C f)/\Aa (ev C f):=by
 intro f
 induction f with
 | zero=>exact⟨λj H n r h=>(by cases h),λj H n r h=>(by cases h),λc T H n r _ h=>(by cases h)⟩
 | succ f ih=>
  obtain⟨i,s,t⟩:=ih;refine⟨λj H n r h=>?_,afj s,RR t⟩;have h:aS C (ev C f) j H n=some r:=h;cases j with
  | code a T=>
   refine ack e i ?_ h;refine⟨λid ops T H n r u m η w fr cs k=>afK e i s id ops T H n r u m η w fr cs k,λg ps bZ body g' T H n r hf m η w fr cs k=>?_,λc d x l b ws T H n r z m η w fr cs k=>agd e i t c d x l b ws T H n r z m η w fr cs k⟩;exact acK e i hf (by exact m) η w fr cs k
  | call A l=>
   cases A with
   | f g a c=>
    cases o:C g with
    | none=>simp only[aS,o]at h;cases h
    | some af=>
     cases af with
     | go af=>exact acr e i o h
     | xq af=>exact agv e i o h
     | pm p=>
      simp only[aS,o]at h;split at h
      ·rename_i v H1 n1 h1;injection h with h;subst h;exact hp g p o a c l H n v H1 n1 h1
      ·cases h
   | y q=>exact acz e i h
   | _=>cases h
def TE.Ok(P:Program)(ty:Ty)(g:Nat)(e:TE):Prop:=kD P ty (.call (.f g [] []) e.args) e.bQ e.n ⟨.normal,.e,e.v,e.add,e.n'⟩
def Cv(P:Program)(ty:Ty)(C:Nat->Option aE):Prop:=
 ∀g p,C g=some (.pm p)->match p with
  | .tS=>∃fn,P.funcs[g]?=some fn/\(fn.name == "runtime.NumGoroutine")=false/\fn.body.isNone=true/\Extern.findNext fn=none/\Extern.find fn=some Extern.BytealgIndexByte.indexByte
  | .same=>∃fn,P.funcs[g]?=some fn/\(fn.name == "runtime.NumGoroutine")=false/\fn.body.isNone=true/\Extern.findNext fn=none/\Extern.find fn=some Extern.AbiNoEscape.same
  | .jw es=>∀e∈es,e.Ok P ty g
  | .BC bQ v=>∀H n,(∀k o,bQ.get k=some o->H.get k=some o)->kD P ty (.call (.f g [] []) []) H n ⟨.normal,.e,v,H,n⟩
def kD.weaken{P:Program}{ty:Ty}{f:V}{l:List V}{H H2:Hp}{n:K}{v:V}{H' H3:Hp}{n':K}(h:kD P ty (.call f l) H n ⟨.normal,.e,v,H',n'⟩)(hs:∀k o,H.get k=some o->H2.get k=some o)(a:∀k o,H3.get k=some o->H'.get k=some o):
 kD P ty (.call f l) H2 n ⟨.normal,.e,v,H3,n'⟩:=by
 intro η w cf cs d args i j p r;refine⟨λ_=>?_,λu h=>by cases h⟩;obtain⟨η',v',w',t,hv,s⟩:=(h η w cf cs d args i j p (r.less hs)).1 rfl;refine⟨η',v',w',⟨t.ext,t.le,t.rep.less a,?_,λm b hb=>?_,t.bC⟩,hv,s⟩
 ·refine⟨t.kept.os,t.kept.tape,t.kept.output,t.kept.size,λb hb x=>t.kept.block b hb λ⟨q,o,L,h1,h2⟩=>x ⟨q,o,L,hs q o h1,h2⟩,t.kept.loops⟩
 ·obtain⟨q,o,L,h1,h2⟩:=hb;rcases t.ka m b ⟨q,o,L,a q o h1,h2⟩ with ⟨c,o',L',g1,y⟩ | g
  ·exact .inl ⟨c,o',L',hs c o' g1,y⟩
  ·exact .inr g
def agM(c:UInt8):∀(l n i:Nat),HK (zC c.toNat l n i)=(if Lib.indexByte (bD l n) c == -1 then .i .i64 (-1) else .i .i64 (Lib.indexByte (bD l n) c+i)):=by
 intro l
 induction l with
 | zero=>intro n i;rfl
 | succ l ih=>
  intro n i;simp only[zC,bD,Lib.indexByte,gU];have hb:(Nat.beq (Nat.mod n 256) c.toNat=true)↔((UInt8.ofNat (n % 256)==c)=true):=by
   rw[Nat.beq_eq,beq_iff_eq];constructor
   ·intro h;apply UInt8.toNat.inj;show(n % 256) % 256=_;have h:n % 256=c.toNat:=h;rw[h];have:=c.toNat_lt;omega
   ·intro h;have:=congrArg UInt8.toNat h;have h2:(UInt8.ofNat (n % 256)).toNat=(n % 256) % 256:=rfl;rw[h2]at this;show n % 256=_;omega
  by_cases h:(UInt8.ofNat (n % 256)==c)=true
  ·rw[ab (hb.2 h),ab h];simp[HK]
  ·rw[Γ (λe=>h (hb.1 e)),Γ h,ih];have a:=Lib.indexByte_ge (bD l (n / 256)) c;show(if Lib.indexByte (bD l (n / 256)) c == -1 then V.i .i64 (-1) else V.i .i64 (Lib.indexByte (bD l (n / 256)) c+((i+1:Nat):Int)))=_
   by_cases h1:(Lib.indexByte (bD l (n / 256)) c == -1)=true
   ·rw[ab h1,ab h1];rfl
   ·rw[Γ h1,Γ h1];have b:Lib.indexByte (bD l (n / 256)) c ≠ -1:=by simpa using h1
    have h2:¬ ((Lib.indexByte (bD l (n / 256)) c+1 == -1)=true):=by rw[beq_iff_eq];omega
    rw[Γ h2];congr 1;omega
def SL{P:Program}{ty:Ty}{C:Nat->Option aE}(S:Cv P ty C):J0 P ty C:=by
 intro g p hp a c l H n v H' n' h;have F:=S g p hp;intro η w cf cs fv args T U Q J;refine⟨λ_=>?_,λu h=>by cases h⟩;cases T with
 | f _ _ _ a' c' V W=>
 have j:aL η (a++(l++c)) (a'++(args++c')):=V.append (U.append W);generalize a++(l++c)=vs at j h;have G:(⟨a'⟩:Array Value)++args.toArray++(⟨c'⟩:Array Value)=(a'++(args++c')).toArray:=by apply jB;simp
 generalize a'++(args++c')=xs at j G;have L:(do let d←Deferred.ofValue (.func (.func g) ⟨a'⟩ ⟨c'⟩) args.toArray;invoke d.target d.args:Sem Next)=callFunc g ((⟨a'⟩:Array Value)++args.toArray++(⟨c'⟩:Array Value)):=rfl;have fin:∀(e:Array Value->Sem Value) (fn:Func),P.funcs[g]?=some fn->(fn.name == "runtime.NumGoroutine")=false->fn.body.isNone=true->Extern.findNext fn=none->Extern.find fn=some e->∀y,(e xs.toArray).run P w=.ok y w->an η v y->H'=H->n'=n->∃η' v' w',Trans (WW ty) η H n w η' H' n' w'/\an η' v v'/\zO P (do let d←Deferred.ofValue (.func (.func g) ⟨a'⟩ ⟨c'⟩) args.toArray;invoke d.target d.args) cf cs w v' w':=by rintro e fn m q x A B y X hv rfl rfl;refine⟨η,y,w,.refl J,hv,.value y,w,?_,rfl,rfl⟩;rw[L,G,run_callFunc_extern m q x A B,X];rfl
 cases p with
 | jw es=>
  obtain⟨e,he,hf,Y⟩:=RQ h;injection Y with h1 h2;injection h2 with h2 M;subst h1;subst h2;subst M;simp only[TE.fits,aD]at hf;obtain⟨⟨⟨f1,f2⟩,f3⟩,f4⟩:=hf;have f1:=K.beq_eq f1;have f2:=wj f2;subst f2;have hj:kD P ty (.call (.f g [] []) e.args) e.bQ e.n ⟨.normal,.e,e.v,e.add,e.n'⟩:=F e he;rw[f1]at hj;have Z:=hj.weaken (H2:=H) (H3:=e.add) (λk o N=>wm (λ_ _=>Cs) f4 k o N) (λ_ _ h=>h);obtain⟨η',v',w',t,hv,D⟩:=(Z η w cf cs (.func (.func g) ⟨[]⟩ ⟨[]⟩) xs (.f _ _ _ _ _ .nil .nil) j Q J).1 rfl;refine⟨η',v',w',t,hv,?_⟩;have E:(do let d←Deferred.ofValue (.func (.func g) ⟨[]⟩ ⟨[]⟩) xs.toArray;invoke d.target d.args:Sem Next)=callFunc g ((⟨[]⟩:Array Value)++xs.toArray++(⟨[]⟩:Array Value)):=rfl;have O:((⟨[]⟩:Array Value)++xs.toArray++(⟨[]⟩:Array Value))=xs.toArray:=by apply jB;simp
  rw[E,O]at D;rw[L,G];exact D
 | BC bQ u=>
  simp only[pm]at h;split at h
  case h_2=>cases h
  cases ht:fP tW bQ H with
  | false=>rw[ht]at h;cases h
  | true=>
  rw[ht]at h;obtain⟨rfl,rfl,rfl⟩:=dC h;obtain⟨η',v',w',t,hv,D⟩:=(F _ _ (λk o N=>wm (λ_ _=>Cs) ht k o N) η w cf cs (.func (.func g) ⟨[]⟩ ⟨[]⟩) xs (.f _ _ _ _ _ .nil .nil) j Q J).1 rfl;refine⟨η',v',w',t,hv,?_⟩;have E:(do let d←Deferred.ofValue (.func (.func g) ⟨[]⟩ ⟨[]⟩) xs.toArray;invoke d.target d.args:Sem Next)=callFunc g ((⟨[]⟩:Array Value)++xs.toArray++(⟨[]⟩:Array Value)):=rfl;have O:((⟨[]⟩:Array Value)++xs.toArray++(⟨[]⟩:Array Value))=xs.toArray:=by apply jB;simp
  rw[E,O]at D;rw[L,G];exact D
 | tS=>
  obtain⟨fn,m,q,x,A,B⟩:=F;simp only[pm,BG]at h;split at h
  case h_2=>cases h
  rename_i sl sm b;cases I:Nat.blt b 256 with
  | false=>rw[I]at h;cases h
  | true=>
  rw[I]at h;simp only[cond_true]at h;have uA:b<256:=by rw[fF]at I;simpa using I
  obtain⟨rfl,rfl,rfl⟩:=dC h;cases j with
  | cons _ y _ r h1 h2=>
  cases h2 with
  | cons _ z _ r h2 M=>
  cases M;cases h1 with
  | s _ _ ω=>
  cases h2;have R:=agM (UInt8.ofNat b) sl sm 0;have gH:(UInt8.ofNat b).toNat=b:=by simp;omega
  rw[gH]at R;have oD:=Lib.run_indexByteString (P:=P) (strOf sl sm) (Int.ofNat b) w;refine fin _ fn m q x A B _ oD ?_ rfl rfl;rw[R];have e1:(strOf sl sm).data.toList=bD sl sm:=by simp[strOf]
  have E:(Int.ofNat b).toNat.toUInt8=UInt8.ofNat b:=rfl;rw[e1,E];split
  ·rename_i h;rw[beq_iff_eq]at h;rw[h];exact .i _ _
  ·simp only[Int.natCast_zero,Int.add_zero];exact .i _ _
 | same=>
  obtain⟨fn,m,q,x,A,B⟩:=F;simp only[pm,HL]at h;split at h
  case h_2=>cases h
  obtain⟨rfl,rfl,rfl⟩:=dC h;cases j with
  | cons _ y _ r h1 h2=>
  cases h2;exact fin _ fn m q x A B y rfl h1 rfl rfl
def TE.check(C:Nat->Option aE)(fuel:Nat)(g:Nat)(e:TE)(r:Option R):Bool:=
 match r with
 | some ⟨.normal,_,v,H',n'⟩=>dK v e.v&&K.beq n' e.n'&&fP tW e.add H'
 | _=>false
def TE.ok{P:Program}{ty:Ty}{C:Nat->Option aE}(a:Good P ty C)(b:Cv P ty C){fuel g:Nat}{e:TE}(h:e.check C fuel g (ev C fuel (.call (.f g [] []) e.args) e.bQ e.n)=true):e.Ok P ty g:=by
 unfold TE.check at h;split at h
 case h_2=>cases h
 rename_i T v H' n' c;simp only[aD]at h;have h1:=tn h.1.1;have h2:=K.beq_eq h.1.2;subst h1;subst h2;have hj:=(SK a (SL b) fuel).1 _ _ _ _ c;refine kD.weaken (H:=e.bQ) (H':=H') (λη w cf cs d args i j l m=>⟨λ_=>?_,λu h=>by cases h⟩) (λ_ _ h=>h) (λk o p=>wm (λ_ _=>Cs) h.2 k o p);exact(hj η w cf cs d args i j l m).1 rfl
def tu(P:Program)(t:Nat):TD:=
 match P.underlying t with
 | some .bool=>.bool
 | some (.int k)=>.int k
 | some .string=>.str
 | some (.pointer e)=>.ptr e
 | some (.slice e)=>.slice e
 | some (.array n e)=>.arr n e
 | some (.map k e)=>.map k e
 | some (.struct fs)=>.jU (fs.toList.map λf=>(f.type,f.offset)) (fs.toList.all (λf=>f.name != "_")&&(!(P.stoodInHeld t)&&!(P.eqGuardType P.depth t)))
 | some (.func _ _ _)=>.func
 | some (.interface _)=>.iface
 | some .unsafePointer=>.zE
 | _=>.other
def SM(P:Program)(t:Nat)(i:TI)(z:Value):Bool:=
 Nat.beq i.zero.length i.size&&(aB i.zero&&((match z with | .agg _=>i.desc.agg | .tuple _=>false | _=>!i.desc.agg)&&
  (match i.desc with | .jU fs _=>fs.all (λf=>(P.info? f.1).isSome) | .other=>(P.underlying t).isSome | _=>true)))
def J2(P:Program)(t:Nat):Option TI:=
 match P.info? t with
 | some i=>match i.zero with
  | some z=>match vV z.cells.toList with
   | some zs=>bif SM P t { desc:=tu P t,size:=i.size,bytes:=i.bytes,zero:=zs} z then some { desc:=tu P t,size:=i.size,bytes:=i.bytes,zero:=zs} else none
   | none=>none
  | none=>none
 | none=>none
def laid(l:List (Nat×aE)):Tr aE:=
 match l with
 | []=>.e
 | p::l=>(laid l).put (some p.2) (bF p.1)
def agN{P:Program}{t:Nat}(h:∀fs pl,tu P t=.jU fs pl->fs.all (λf=>(P.info? f.1).isSome)=true):HR P t (tu P t):=by
 unfold tu at h ⊢;cases hu:P.underlying t with
 | none=>trivial
 | some d=>
  rw[hu]at h;cases d<;>try (exact hu)
  case struct l=>
   simp only at h ⊢;refine⟨l,hu,rfl,λf hf=>?_,λhp=>?_⟩
   ·have:=h _ _ rfl;rw[kX]at this;have:=this (f.type,f.offset) (List.mem_map.2 ⟨f,hf,rfl⟩);exact Bz.1 this
   ·simp only[aD,qd,kX,bne_iff_ne]at hp;exact⟨λf hf=>hp.1 f (by simpa using hf),hp.2.1,hp.2.2⟩
  case func a b c=>exact⟨a,b,c,hu⟩
  case interface ms=>exact⟨ms,hu⟩
  all_goals trivial
def agO{P:Program}{t:Nat}{i:TI}(h:J2 P t=some i):ua P t i:=by
 unfold J2 at h;split at h
 case h_2=>cases h
 rename_i ti l;split at h
 case h_2=>cases h
 rename_i z m;split at h
 case h_2=>cases h
 rename_i zs o;simp only[gU]at h;split at h
 case isFalse=>cases h
 rename_i k;injection h with h;subst h;simp only[SM,aD]at k;obtain⟨h1,h2,b,c⟩:=k;refine⟨agN λfs pl he=>?_,⟨ti,z,l,rfl,rfl,m,o,λf=>?_,λf=>?_,bY h1,h2⟩,λa=>?_⟩
 ·rw[he]at c;exact c
 ·have g:(tu P t).agg=true:=f;cases z<;>simp only[g,Bool.not_true]at b<;>first | exact⟨_,rfl⟩ | cases b
 ·have g:(tu P t).agg=false:=f;cases z<;>simp only[g]at b<;>first | rfl | cases b
 ·have a:tu P t=.other:=a;rw[a]at c;obtain⟨d,j⟩:=Bz.1 c;refine⟨d,j,λfs e=>?_,λn p e=>?_⟩
  ·subst e;unfold tu at a;rw[j]at a;cases a
  ·subst e;unfold tu at a;rw[j]at a;cases a
def Each(Q:Nat->aE->Prop):List (Nat×aE)->Prop
 | []=>True
 | p::l=>Q p.1 p.2/\Each Q l
def J3{Q:Nat->aE->Prop}:∀{l:List (Nat×aE)},Each Q l->∀{g:Nat} {a:aE},(laid l).get (bF g)=some a->Q g a:=by
 intro l
 induction l with
 | nil=>intro _ g a h;simp only[laid,Tr.gV]at h;cases h
 | cons p l ih=>
  intro b g a h;simp only[laid,Tr.fk]at h;split at h
  ·rename_i e;have:=ED e;subst this;injection h with h;subst h;exact b.1
  ·exact ih b.2 h
def fV(P:Program)(ty:Ty)(g:Nat)(a:aE):Prop:=
 match a with
 | .go af=>∃fn,P.funcs[g]?=some fn/\(fn.name == "runtime.NumGoroutine")=false/\sQ ty fn=some af
 | .xq af=>∃fn cf,P.funcs[g]?=some fn/\(fn.name == "runtime.NumGoroutine")=false/\wa ty fn (λi=>P.funcs[i]?)=some af/\P.funcs[af.g]?=some cf/\(cf.name == "runtime.NumGoroutine")=false
 | .pm p=>match p with
  | .tS=>∃fn,P.funcs[g]?=some fn/\(fn.name == "runtime.NumGoroutine")=false/\fn.body.isNone=true/\Extern.findNext fn=none/\Extern.find fn=some Extern.BytealgIndexByte.indexByte
  | .same=>∃fn,P.funcs[g]?=some fn/\(fn.name == "runtime.NumGoroutine")=false/\fn.body.isNone=true/\Extern.findNext fn=none/\Extern.find fn=some Extern.AbiNoEscape.same
  | .jw es=>∀e∈es,e.Ok P ty g
  | .BC bQ v=>∀H n,(∀k o,bQ.get k=some o->H.get k=some o)->kD P ty (.call (.f g [] []) []) H n ⟨.normal,.e,v,H,n⟩
def J4{P:Program}{ty:Ty}{l:List (Nat×aE)}(aC:cP P ty)(hm:P.follows .mixedOrders=true)(hl:Each (fV P ty) l):Good P ty (λg=>(laid l).get (bF g)):=
 ⟨aC,λg af h=>J3 hl h,hm,λg af h=>J3 hl h⟩
def J5{P:Program}{ty:Ty}{l:List (Nat×aE)}(hl:Each (fV P ty) l):Cv P ty (λg=>(laid l).get (bF g)):=by intro g p h;have:=J3 hl h;cases p<;>exact this
section
section
variable {P:Program}{ty:Ty}
def okB(P:Program)(ty:Ty)(g:Nat):Bool:=match P.funcs[g]? with
 | some fn=>!(fn.name == "runtime.NumGoroutine")&&(sQ ty fn).isSome
 | none=>false
def uB(P:Program)(ty:Ty)(g:Nat):aE:=.go (match P.funcs[g]? with
 | some fn=>(sQ ty fn).getD ⟨[],[],.bad⟩
 | none=>⟨[],[],.bad⟩)
def FH{g:Nat}(h:okB P ty g=true):fV P ty g (uB P ty g):=by
 unfold okB at h;unfold uB;cases hf:P.funcs[g]? with
 | none=>rw[hf]at h;cases h
 | some fn=>
  rw[hf]at h;simp only[aD,qd]at h;obtain⟨a,b⟩:=Bz.1 h.2;exact⟨fn,hf,h.1,by simp only[b];rfl⟩
def FI:∀{l:List Nat},l.all (okB P ty)=true->Each (fV P ty) (l.map λg=>(g,uB P ty g))
 | [],_=>trivial
 | g::l,h=>by rw[List.all_cons,aD]at h;exact⟨FH h.1,FI h.2⟩
def wv(P:Program)(ty:Ty)(g:Nat):Option AF:=match P.funcs[g]? with
 | some fn=>bif fn.name == "runtime.NumGoroutine" then none else sQ ty fn
 | none=>none
def J6{g:Nat}{a:AF}(h:wv P ty g=some a):fV P ty g (.go a):=by
 unfold wv at h;cases hf:P.funcs[g]? with
 | none=>rw[hf]at h;cases h
 | some fn=>
  rw[hf]at h;simp only at h;cases b:fn.name == "runtime.NumGoroutine" with
  | true=>rw[b]at h;cases h
  | false=>rw[b]at h;exact⟨fn,hf,b,h⟩
def FJ:∀{gs:List Nat} {xs:List AF},gs.map (wv P ty)=xs.map some->Each (fV P ty) (List.zipWith (λg a=>(g,aE.go a)) gs xs)
 | [],_,_=>trivial
 | _::_,[],_=>trivial
 | g::gs,a::xs,h=>by rw[eY,eY]at h;injection h with h1 h2;exact⟨J6 h1,FJ h2⟩
end
end
def Ae(n:K):Hp->Bool
 | .e=>true
 | .n v l r=>(match v with | none=>true | some (.r l)=>gG n l | some _=>false)&&(Ae n l&&Ae n r)
def FK{n:K}:∀{H:Hp},Ae n H=true->∀{k:K} {o:O},H.get k=some o->∃l,o=.r l/\gG n l=true:=by
 intro H
 induction H with
 | e=>intro _ k o h;rw[Tr.gV]at h;cases h
 | n v l r a b=>
  intro hp k o h;simp only[Ae,aD]at hp;cases k with
  | h=>
   simp only[Tr.get]at h;subst h;have:=hp.1;cases o with
   | r l=>exact⟨l,rfl,this⟩
   | _=>cases this
  | o k=>exact a hp.2.1 h
  | i k=>exact b hp.2.2 h
def agP{P:Program}{ty:Ty}{g:Nat}{bQ:Hp}{n0:K}{v:V}{H':Hp}{n':K}(hp:Ae n0 bQ=true)(j:∀k o,bQ.get k=some o->k.num<n0.num)(J:ty.g<n0.num)(hv:∀η η' x,an η v x->an η' v x)
 (h:kD P ty (.call (.f g [] []) []) bQ n0 ⟨.normal,.e,v,H',n'⟩)(H:Hp)(n:K)(hs:∀k o,bQ.get k=some o->H.get k=some o):kD P ty (.call (.f g [] []) []) H n ⟨.normal,.e,v,H,n⟩:=by
 intro η w cf cs M args p r s c;refine⟨λ_=>?_,λu h=>by cases h⟩;cases p with
 | f _ _ _ a' c' z A=>
 have B:an (bX η n0) (.f g [] []) (.func (.func g) ⟨a'⟩ ⟨c'⟩):=by cases z;cases A;exact .f _ _ _ _ _ .nil .nil
 have C:aL (bX η n0) [] args:=by cases r;exact .nil
 have D:bM (bX η n0) ty.g:=λq E=>let⟨L,h1,h2⟩:=s q E;⟨L,pz h1 (by rw[xz];omega),h2⟩;have F:aU (WW ty) (bX η n0) bQ n0 w:=by
  refine⟨λk o a=>?_,λk k' o o' L L' N a hm _ _ _=>?_,R9 η n0⟩
  ·obtain⟨L,h1,h2,d⟩:=c.obj k o (hs k o a);obtain⟨l,rfl,hl⟩:=FK hp a;exact⟨L,pz h1 (j k _ a),h2,d.bX hl⟩
  ·obtain⟨l,rfl,_⟩:=FK hp a;cases hm
 obtain⟨η1,y,i,t,G,I⟩:=(h (bX η n0) w cf cs _ args B C D F).1 rfl;have same:∀b,b<w.heap.size->i.heap[b]?=w.heap[b]?:=λb hb=>t.kept.block b hb λ⟨q,o,L,h1,h2,_,_⟩=>by obtain⟨l,rfl,_⟩:=FK hp h1;cases h2 rfl
 refine⟨η,y,i,⟨.refl _,ξ _,⟨λk o a=>?_,c.sep,c.free⟩,⟨t.kept.os,t.kept.tape,t.kept.output,t.kept.size,λb hb _=>same b hb,t.kept.loops⟩,λm b hb=>.inl hb,λ_ _=>rfl⟩,hv _ _ _ G,I⟩;obtain⟨L,h1,h2,d⟩:=c.obj k o a;exact⟨L,h1,eE h2 t.kept.size,by rw[same _ h2];exact d⟩
end Go.Ev
namespace Go.Ev.F
open Go Go.Ev
noncomputable section
def get{α:Type}(k:K):Tr α->Option α:=
 K.rec (motive:=λ_=>Tr α->Option α) (λt=>Tr.casesOn t none (λv _ _=>v)) (λ_ ih t=>Tr.casesOn t none (λ_ l _=>ih l)) (λ_ ih t=>Tr.casesOn t none (λ_ _ r=>ih r)) k
def get_eq{α:Type}(k:K)(t:Tr α):get k t=t.get k:=by
 induction k generalizing t with
 | h=>cases t<;>rfl
 | o p ih=>cases t with
  | e=>rfl
  | n v l r=>exact ih l
 | i p ih=>cases t with
  | e=>rfl
  | n v l r=>exact ih r
def put{α:Type}(v:Option α)(k:K):Tr α->Tr α:=
 K.rec (motive:=λ_=>Tr α->Tr α) (λt=>Tr.casesOn t (.n v .e .e) (λ_ l r=>.n v l r)) (λ_ ih t=>Tr.casesOn t (.n none (ih .e) .e) (λw l r=>.n w (ih l) r))
  (λ_ ih t=>Tr.casesOn t (.n none .e (ih .e)) (λw l r=>.n w l (ih r))) k
def put_eq{α:Type}(v:Option α)(k:K)(t:Tr α):put v k t=t.put v k:=by
 induction k generalizing t with
 | h=>cases t<;>rfl
 | o p ih=>cases t with
  | e=>show Tr.n none (put v p .e) .e=_;rw[ih];cases p<;>rfl
  | n w l r=>show Tr.n w (put v p l) r=_;rw[ih];rfl
 | i p ih=>cases t with
  | e=>show Tr.n none .e (put v p .e)=_;rw[ih];cases p<;>rfl
  | n w l r=>show Tr.n w l (put v p r)=_;rw[ih];rfl
def aq(x:ao):Tr V->Option V:=ao.casesOn x (λk=>get k) (λv _=>some v)
def iG(x:ao)(T:Tr V):aq x T=Ev.aq T x:=by
 cases x with
 | t k=>exact get_eq k T
 | c v=>rfl
def aM{α β:Type}(x:Option α)(f:α->Option β):Option β:=Option.casesOn x none f
def eZ(l:List ao):Tr V->Option (List V):=
 List.rec (motive:=λ_=>Tr V->Option (List V)) (λ_=>some []) (λx _ ih T=>aM (aq x T) λv=>aM (ih T) λvs=>some (v::vs)) l
def J7(l:List ao)(T:Tr V):eZ l T=Ev.eZ T l:=by
 induction l with
 | nil=>rfl
 | cons x l ih=>
  show aM (aq x T) (λv=>aM (eZ l T) λvs=>some (v::vs))=_;rw[iG,ih];simp only[Ev.eZ];cases Ev.aq T x<;>cases Ev.eZ T l<;>rfl
def nth{α:Type}(l:List α):Nat->Option α:=
 List.rec (motive:=λ_=>Nat->Option α) (λ_=>none) (λa _ ih n=>Nat.casesOn n (some a) ih) l
def oB{α:Type}(l:List α)(n:Nat):nth l n=Ev.nth l n:=by
 induction l generalizing n with
 | nil=>rfl
 | cons a l ih=>cases n with
  | zero=>rfl
  | succ n=>exact ih n
def takeN{α:Type}(n:Nat):List α->Option (List α):=
 Nat.rec (motive:=λ_=>List α->Option (List α)) (λ_=>some []) (λ_ ih l=>List.casesOn l none (λa l=>aM (ih l) λl'=>some (a::l'))) n
def EE{α:Type}(n:Nat)(l:List α):takeN n l=Ev.takeN n l:=by
 induction n generalizing l with
 | zero=>rfl
 | succ n ih=>cases l with
  | nil=>rfl
  | cons a l=>
   show aM (takeN n l) (λl'=>some (a::l'))=_;rw[ih];simp only[Ev.takeN];cases Ev.takeN n l<;>rfl
def mn{α:Type}(n:Nat):List α->Option (List α):=
 Nat.rec (motive:=λ_=>List α->Option (List α)) (λl=>some l) (λ_ ih l=>List.casesOn l none (λ_ l=>ih l)) n
def HM{α:Type}(n:Nat)(l:List α):mn n l=Ev.mn n l:=by
 induction n generalizing l with
 | zero=>cases l<;>rfl
 | succ n ih=>cases l with
  | nil=>rfl
  | cons a l=>exact ih l
def cw{α:Type}(l:List α)(o n:Nat):Option (List α):=aM (mn o l) λl'=>takeN n l'
def nj{α:Type}(l:List α)(o n:Nat):cw l o n=Ev.cw l o n:=by
 unfold cw Ev.cw;rw[HM];cases Ev.mn o l with
 | none=>rfl
 | some l'=>exact EE n l'
def over{α:Type}(vs:List α):List α->Option (List α):=
 List.rec (motive:=λ_=>List α->Option (List α)) (λl=>some l) (λv _ ih l=>List.casesOn l none (λ_ l=>aM (ih l) λl'=>some (v::l'))) vs
def agS{α:Type}(vs l:List α):over vs l=Ev.over vs l:=by
 induction vs generalizing l with
 | nil=>cases l<;>rfl
 | cons v vs ih=>cases l with
  | nil=>rfl
  | cons a l=>
   show aM (over vs l) (λl'=>some (v::l'))=_;rw[ih];simp only[Ev.over];cases Ev.over vs l<;>rfl
def cJ{α:Type}(vs:List α)(o:Nat):List α->Option (List α):=
 Nat.rec (motive:=λ_=>List α->Option (List α)) (over vs) (λ_ ih l=>List.casesOn l none (λa l=>aM (ih l) λl'=>some (a::l'))) o
def agT{α:Type}(vs:List α)(o:Nat)(l:List α):cJ vs o l=Ev.cJ vs l o:=by
 induction o generalizing l with
 | zero=>exact(agS vs l).trans (by cases l<;>rfl)
 | succ o ih=>cases l with
  | nil=>rfl
  | cons a l=>
   show aM (cJ vs o l) (λl'=>some (a::l'))=_;rw[ih];simp only[Ev.cJ];cases Ev.cJ vs l o<;>rfl
def aB(l:List V):Bool:=List.rec (motive:=λ_=>Bool) true (λv _ ih=>cond (V.one v) ih false) l
def agU(l:List V):aB l=Ev.aB l:=by
 induction l with
 | nil=>rfl
 | cons v l ih=>
  show cond (V.one v) (aB l) false=(V.one v&&Ev.aB l);rw[ih];cases V.one v<;>rfl
def row(o:O):Option (List V):=O.casesOn o (λl _ _=>some l) (λl=>some l) (λx y _=>some [x,y]) (λ_ _=>none) (λ_ _=>none) (λ_ _ _=>none) (λ_ _ _=>none) (λ_ _ _ _ _ _=>none)
def agV(o:O):row o=o.row:=by cases o<;>rfl
def J8(v:V):Option (K×Nat):=V.casesOn (motive_1:=λ_=>Option (K×Nat)) v (λ_=>none) (λ_ _=>none) (λ_ _=>none) none (λb o=>some (b,o)) none (λ_ _ _ _=>none) (λ_ _ _ _=>none) none (λ_=>none) none (λ_ _ _=>none) (λ_=>none) none (λ_ _=>none) (λ_=>none) (λ_=>none) none
def J9(agg:Bool)(sz:Nat)(H:Hp)(q:K×Nat):Option V:=
 aM (get q.1 H) λo=>aM (row o) λl=>cond agg (aM (cw l q.2 sz) λl'=>some (.a l')) (nth l q.2)
def tD(agg:Bool)(sz:Nat)(H:Hp)(v:V):Option V:=aM (J8 v) (J9 agg sz H)
def agW(agg:Bool)(sz:Nat)(H:Hp)(v:V):tD agg sz H v=Ev.tD H agg sz v:=by
 cases v<;>try rfl
 rename_i b o;show J9 agg sz H (b,o)=_;unfold J9;simp only[Ev.tD,rowAt,get_eq];cases H.get b with
 | none=>rfl
 | some ob=>
  show aM (row ob) (λl=>cond agg (aM (cw l o sz) λl'=>some (.a l')) (nth l o))=(match ob.row with
   | some l=>bif agg then (match Ev.cw l o sz with | some l'=>some (.a l') | none=>none) else Ev.nth l o
   | none=>none)
  rw[agV];cases ob.row with
  | none=>rfl
  | some l=>
   show cond agg (aM (cw l o sz) λl'=>some (.a l')) (nth l o)=cond agg (match Ev.cw l o sz with | some l'=>some (.a l') | none=>none) (Ev.nth l o)
   rw[nj,oB];cases agg with
   | false=>rfl
   | true=>simp only[cond_true];cases Ev.cw l o sz<;>rfl
def Yr(H:Hp)(b:K)(o:Nat)(vs:List V)(l:List V)(e fz:Nat):Option Hp:=
 cond (Nat.ble fz o) (cond (aB vs) (aM (cJ vs o l) λl'=>some (put (some (.c l' e fz)) b H)) none) none
def gq(H:Hp)(b:K)(o:Nat)(vs:List V):Option Hp:=
 aM (get b H) λob=>O.casesOn ob (λl e fz=>Yr H b o vs l e fz) (λ_=>none) (λ_ _ _=>Ev.gq H b o vs) (λ_ _=>none) (λ_ _=>none) (λ_ _ _=>none) (λ_ _ _=>none) (λ_ _ _ _ _ _=>none)
def agX(H:Hp)(b:K)(o:Nat)(vs:List V):gq H b o vs=Ev.gq H b o vs:=by
 unfold gq;rw[get_eq];cases hb:H.get b with
 | none=>simp only[aM,Ev.gq,hb]
 | some ob=>
  cases ob with
  | c l e fz=>
   show Yr H b o vs l e fz=_;unfold Yr;simp only[Ev.gq,hb,agU,agT];cases Nat.ble fz o with
   | false=>rfl
   | true=>
    cases Ev.aB vs with
    | false=>rfl
    | true=>
     simp only[cond_true,iX];cases Ev.cJ vs l o with
     | none=>rfl
     | some l'=>show some (put _ b H)=_;rw[put_eq]
  | b x y e=>rfl
  | _=>simp only[aM,Ev.gq,hb]
def Ka(sz:Nat)(x:V)(H:Hp)(q:K×Nat):Option Hp:=cond (Nat.beq x.cells.length sz) (gq H q.1 q.2 x.cells) none
def AN(sz:Nat)(a x:V)(H:Hp):Option Hp:=aM (J8 a) (Ka sz x H)
def agY(sz:Nat)(a x:V)(H:Hp):AN sz a x H=Ev.AN H sz a x:=by
 cases a<;>try rfl
 rename_i b o;show Ka sz x H (b,o)=_;unfold Ka;rw[agX];rfl
def mk(o:O)(v:K->V)(H:Hp)(n:K):fY:=some (v n,put (some o) n H,n.succ)
def mk_eq(o:O)(v:K->V)(H:Hp)(n:K):mk o v H n=jD H n o (v n):=by unfold mk jD;rw[put_eq]
def cU(H:Hp)(n:K)(x:Option V):fY:=Option.casesOn x none (λv=>some (v,H,n))
def kc(H:Hp)(n:K)(x:Option V):cU H n x=Ev.cU H n x:=by cases x<;>rfl
def oZ(n:K)(x:Option Hp):fY:=Option.casesOn x none (λH=>some (.u [],H,n))
def agZ(n:K)(x:Option Hp):oZ n x=Ev.oZ n x:=by cases x<;>rfl
def sMv(x:ao)(T:Tr V)(H:Hp)(n:K):fY:=cU H n (aq x T)
def ag0(c a b:ao)(T:Tr V)(H:Hp)(n:K):fY:=aM (aq c T) λv=>V.casesOn (motive_1:=λ_=>fY) v (λx=>cU H n (cond x (aq a T) (aq b T))) (λ_ _=>none) (λ_ _=>none) none (λ_ _=>none) none (λ_ _ _ _=>none) (λ_ _ _ _=>none) none (λ_=>none) none (λ_ _ _=>none) (λ_=>none) none (λ_ _=>none) (λ_=>none) (λ_=>none) none
def ag1(e:Nat)(zs:List V)(T:Tr V)(H:Hp)(n:K):fY:=mk (.c zs e 0) (λn=>.p n 0) H n
def sLd(agg:Bool)(sz:Nat)(a:ao)(T:Tr V)(H:Hp)(n:K):fY:=aM (aq a T) λv=>cU H n (tD agg sz H v)
def sSt(sz:Nat)(a x:ao)(T:Tr V)(H:Hp)(n:K):fY:=aM (aq a T) λa=>aM (aq x T) λx=>oZ n (AN sz a x H)
def nck(v:V):Option V:=V.casesOn (motive_1:=λ_=>Option V) v (λ_=>none) (λ_ _=>none) (λ_ _=>none) none (λb o=>some (.p b o)) none (λ_ _ _ _=>none) (λ_ _ _ _=>none) none (λ_=>none) none (λg a c=>some (.f g a c)) (λl=>some (.y l)) none (λ_ _=>none) (λ_=>none) (λ_=>none) none
def ag2(x:ao)(T:Tr V)(H:Hp)(n:K):fY:=aM (aq x T) λv=>cU H n (nck v)
def Af(f:Int->Int->Bool)(_:IntKind)(x y:Int):Option V:=some (.b (f x y))
def Kb(f:Int->Int->Int)(k:IntKind)(x y:Int):Option V:=some (.i k (wr k (f x y)))
def SN(op:BinOp):IntKind->Int->Int->Option V:=
 match op with
 | .add=>Kb Int.add
 | .sub=>Kb Int.sub
 | .mul=>Kb Int.mul
 | .eql=>Af qI
 | .neq=>Af (λx y=>!(qI x y))
 | .lss=>Af vh
 | .leq=>Af BD
 | .gtr=>Af (λx y=>vh y x)
 | .geq=>Af (λx y=>BD y x)
 | op=>Ev.mZ op
def ag3(op:BinOp)(k:IntKind)(x y:Int):SN op k x y=Ev.mZ op k x y:=by cases op<;>rfl
def ag6(op:BinOp):Bool:=match op with | .shl=>true | .shr=>true | _=>false
def Kc(op:BinOp)(k:IntKind)(a:Int)(k':IntKind)(b:Int):Option V:=
 cond (ag6 op) (Ev.HF op k a b) (cond (Nat.beq (kn k) (kn k')) (SN op k a b) none)
def cR(op:BinOp)(q:dR)(x y:V):Option V:=Ev.mq op q x y
def bin(op:BinOp)(q:dR)(x y:V):Option V:=
 V.casesOn (motive_1:=λ_=>Option V) x (λ_=>(cR op q x y)) (λk a=>V.casesOn (motive_1:=λ_=>Option V) y (λ_=>(cR op q x y)) (λk' b=>Kc op k a k' b) (λ_ _=>(cR op q x y)) (cR op q x y) (λ_ _=>(cR op q x y)) (cR op q x y) (λ_ _ _ _=>(cR op q x y)) (λ_ _ _ _=>(cR op q x y)) (cR op q x y) (λ_=>(cR op q x y)) (cR op q x y) (λ_ _ _=>(cR op q x y)) (λ_=>(cR op q x y)) (cR op q x y) (λ_ _=>(cR op q x y)) (λ_=>(cR op q x y)) (λ_=>(cR op q x y)) (cR op q x y)) (λl n=>V.casesOn (motive_1:=λ_=>Option V) y (λ_=>(cR op q x y)) (λ_ _=>(cR op q x y)) (λl' n'=>Ev.Ey op l n l' n') (cR op q x y) (λ_ _=>(cR op q x y)) (cR op q x y) (λ_ _ _ _=>(cR op q x y)) (λ_ _ _ _=>(cR op q x y)) (cR op q x y) (λ_=>(cR op q x y)) (cR op q x y) (λ_ _ _=>(cR op q x y)) (λ_=>(cR op q x y)) (cR op q x y) (λ_ _=>(cR op q x y)) (λ_=>(cR op q x y)) (λ_=>(cR op q x y)) (cR op q x y)) (cR op q x y) (λ_ _=>(cR op q x y)) (cR op q x y) (λ_ _ _ _=>(cR op q x y)) (λ_ _ _ _=>(cR op q x y)) (cR op q x y) (λ_=>(cR op q x y)) (cR op q x y) (λ_ _ _=>(cR op q x y)) (λ_=>(cR op q x y)) (cR op q x y) (λ_ _=>(cR op q x y)) (λ_=>(cR op q x y)) (λ_=>(cR op q x y)) (cR op q x y)
def ag7(op:BinOp)(q:dR)(x y:V):bin op q x y=Ev.mq op q x y:=by
 cases x<;>try rfl
 ·cases y<;>try rfl
  rename_i k a k' b;show Kc op k a k' b=_;unfold Kc;rw[ag3];cases op<;>rfl
 ·cases y<;>try rfl
  cases op<;>rfl
def ag8(op:BinOp)(k:dR)(x y:ao)(T:Tr V)(H:Hp)(n:K):fY:=aM (aq x T) λx=>aM (aq y T) λy=>cU H n (bin op k x y)
def sUn(op:UnOp)(x:ao)(T:Tr V)(H:Hp)(n:K):fY:=aM (aq x T) λx=>cU H n (Ev.HG op x)
def aha(t:Nat)(x:ao)(T:Tr V)(H:Hp)(n:K):fY:=aM (aq x T) λv=>some (.j9 t v,H,n)
def ahb(f:Nat)(a c:List ao)(T:Tr V)(H:Hp)(n:K):fY:=aM (eZ a T) λa=>aM (eZ c T) λc=>some (.f f a c,H,n)
def SP(off:Nat)(H:Hp)(n:K)(q:K×Nat):fY:=some (.p q.1 (Nat.add q.2 off),H,n)
def ahc(off:Nat)(x:ao)(T:Tr V)(H:Hp)(n:K):fY:=aM (aq x T) λv=>aM (J8 v) (SP off H n)
def asA(v:V):Option (List V):=V.casesOn (motive_1:=λ_=>Option (List V)) v (λ_=>none) (λ_ _=>none) (λ_ _=>none) none (λ_ _=>none) none (λ_ _ _ _=>none) (λ_ _ _ _=>none) none (λ_=>none) none (λ_ _ _=>none) (λ_=>none) none (λ_ _=>none) (λl=>some l) (λ_=>none) none
def asU(v:V):Option (List V):=V.casesOn (motive_1:=λ_=>Option (List V)) v (λ_=>none) (λ_ _=>none) (λ_ _=>none) none (λ_ _=>none) none (λ_ _ _ _=>none) (λ_ _ _ _=>none) none (λ_=>none) none (λ_ _ _=>none) (λ_=>none) none (λ_ _=>none) (λ_=>none) (λl=>some l) none
def ahf(agg:Bool)(off sz:Nat)(x:ao)(T:Tr V)(H:Hp)(n:K):fY:=
 aM (aq x T) λv=>aM (asA v) λl=>cond agg (aM (cw l off sz) λl'=>some (.a l',H,n)) (cU H n (nth l off))
def ahg(x:ao)(i:Nat)(T:Tr V)(H:Hp)(n:K):fY:=aM (aq x T) λv=>aM (asU v) λl=>cU H n (nth l i)
def ahh(v:V):Option (K×Nat×Nat):=V.casesOn (motive_1:=λ_=>Option (K×Nat×Nat)) v (λ_=>none) (λ_ _=>none) (λ_ _=>none) none (λ_ _=>none) none (λb o l _=>some (b,o,l)) (λb o l _=>some (b,o,l)) none (λ_=>none) none (λ_ _ _=>none) (λ_=>none) none (λ_ _=>none) (λ_=>none) (λ_=>none) none
def NG(v:V):Option Nat:=V.casesOn (motive_1:=λ_=>Option Nat) v (λ_=>none) (λ_ n=>Int.casesOn n (λn=>some n) (λ_=>none)) (λ_ _=>none) none (λ_ _=>none) none (λ_ _ _ _=>none) (λ_ _ _ _=>none) none (λ_=>none) none (λ_ _ _=>none) (λ_=>none) none (λ_ _=>none) (λ_=>none) (λ_=>none) none
def ahi(z i:Nat)(H:Hp)(n:K)(q:K×Nat×Nat):fY:=cond (Nat.blt i q.2.2) (some (.p q.1 (Nat.add q.2.1 (Nat.mul i z)),H,n)) none
def ahj(m z i:Nat)(H:Hp)(n:K)(q:K×Nat):fY:=cond (Nat.blt i m) (some (.p q.1 (Nat.add q.2 (Nat.mul i z)),H,n)) none
def Ke(arr:Option Nat)(z i:Nat)(v:V)(H:Hp)(n:K):fY:=
 Option.casesOn arr (aM (ahh v) (ahi z i H n)) (λm=>aM (J8 v) (ahj m z i H n))
def ahk(arr:Option Nat)(z:Nat)(x i:ao)(T:Tr V)(H:Hp)(n:K):fY:=aM (aq x T) λv=>aM (aq i T) λi=>aM (NG i) λi=>Ke arr z i v H n
def Kf(i:Nat)(v:V):Option V:=V.casesOn (motive_1:=λ_=>Option V) v (λ_=>none) (λ_ _=>none) (λl m=>cond (Nat.blt i l) (some (.i .u8 (Int.ofNat (GW m i)))) none) none (λ_ _=>none) none (λ_ _ _ _=>none) (λ_ _ _ _=>none) none (λ_=>none) none (λ_ _ _=>none) (λ_=>none) none (λ_ _=>none) (λ_=>none) (λ_=>none) none
def ahl(arr:Option (Nat×Nat×Bool))(x i:ao)(T:Tr V)(H:Hp)(n:K):fY:=
 Option.casesOn arr (aM (aq x T) λv=>aM (aq i T) λi=>aM (NG i) λi=>cU H n (Kf i v)) (λ_=>Ev.simple (.idx arr x i) T H n)
def SQ(v:V):Option V:=V.casesOn (motive_1:=λ_=>Option V) v (λ_=>none) (λ_ _=>none) (λ_ _=>none) none (λ_ _=>none) (some (.i .i64 0)) (λ_ _ l _=>some (.i .i64 (Int.ofNat l))) (λ_ _ l _=>some (.i .i64 (Int.ofNat l))) none (λ_=>none) none (λ_ _ _=>none) (λ_=>none) none (λ_ _=>none) (λ_=>none) (λ_=>none) none
def SR(v:V):Option V:=V.casesOn (motive_1:=λ_=>Option V) v (λ_=>none) (λ_ _=>none) (λl _=>some (.i .i64 (Int.ofNat l))) none (λ_ _=>none) none (λ_ _ _ _=>none) (λ_ _ _ _=>none) none (λ_=>none) none (λ_ _ _=>none) (λ_=>none) none (λ_ _=>none) (λ_=>none) (λ_=>none) none
def fT(k:Nat)(x:ao)(T:Tr V)(H:Hp)(n:K):fY:=
 Nat.casesOn k (aM (aq x T) λv=>cU H n (SR v)) (λk1=>Nat.casesOn k1 (aM (aq x T) λv=>cU H n (SQ v)) (λ_=>Ev.simple (.len k x) T H n))
def toInt(k:IntKind)(v:V):Option V:=V.casesOn (motive_1:=λ_=>Option V) v (λ_=>none) (λ_ m=>some (.i k (wr k m))) (λ_ _=>none) none (λ_ _=>none) none (λ_ _ _ _=>none) (λ_ _ _ _=>none) none (λ_=>none) none (λ_ _ _=>none) (λ_=>none) none (λ_ _=>none) (λ_=>none) (λ_=>none) none
def sCv(k:MT)(x:ao)(T:Tr V)(H:Hp)(n:K):fY:=
 match k with
 | .toInt k=>aM (aq x T) λv=>cU H n (toInt k v)
 | k=>Ev.simple (.cv k x) T H n
def simple:A->Tr V->Hp->K->fY
 | .mv a=>sMv a
 | .pick a b c=>ag0 a b c
 | .new a b=>ag1 a b
 | .ld a b c=>sLd a b c
 | .st a b c=>sSt a b c
 | .nck a=>ag2 a
 | .bin a b c d=>ag8 a b c d
 | .un a b=>sUn a b
 | .cv a b=>sCv a b
 | .mif a b=>aha a b
 | .mfn a b c=>ahb a b c
 | .fad a b=>ahc a b
 | .fld a b c d=>ahf a b c d
 | .iad a b c d=>ahk a b c d
 | .idx a b c=>ahl a b c
 | .ext a b=>ahg a b
 | .len a b=>fT a b
 | o=>Ev.simple o
def ahm(op:A)(T:Tr V)(H:Hp)(n:K):simple op T H n=Ev.simple op T H n:=by
 cases op<;>try rfl
 case mv x=>show cU H n (aq x T)=_;rw[kc,iG];rfl
 case pick c a b=>
  show aM (aq c T) _=_;rw[iG];simp only[Ev.simple];cases Ev.aq T c with
  | none=>rfl
  | some v=>
   cases v<;>try rfl
   rename_i x;show cU H n (cond x (aq a T) (aq b T))=_;rw[kc,iG,iG];cases x<;>rfl
 case new e zs=>exact mk_eq (.c zs e 0) (λn=>.p n 0) H n
 case ld agg sz a=>
  show aM (aq a T) (λv=>cU H n (tD agg sz H v))=_;rw[iG];simp only[Ev.simple];cases Ev.aq T a with
  | none=>rfl
  | some v=>show cU H n (tD agg sz H v)=_;rw[kc,agW]
 case st sz a x=>
  show aM (aq a T) (λa=>aM (aq x T) λx=>oZ n (AN sz a x H))=_;rw[iG,iG];simp only[Ev.simple];cases Ev.aq T a with
  | none=>rfl
  | some v=>cases Ev.aq T x with
   | none=>rfl
   | some u=>show oZ n (AN sz v u H)=_;rw[agZ,agY]
 case nck x=>
  show aM (aq x T) (λv=>cU H n (nck v))=_;rw[iG];simp only[Ev.simple];cases Ev.aq T x with
  | none=>rfl
  | some v=>cases v<;>rfl
 case bin o k x y=>
  show aM (aq x T) (λx=>aM (aq y T) λy=>cU H n (bin o k x y))=_;rw[iG,iG];simp only[Ev.simple];cases Ev.aq T x with
  | none=>rfl
  | some v=>cases Ev.aq T y with
   | none=>rfl
   | some u=>show cU H n (bin o k v u)=_;rw[kc,ag7]
 case un o x=>
  show aM (aq x T) (λx=>cU H n (Ev.HG o x))=_;rw[iG];simp only[Ev.simple];cases Ev.aq T x with
  | none=>rfl
  | some v=>exact kc _ _ _
 case cv k x=>
  cases k<;>try rfl
  rename_i k;show aM (aq x T) (λv=>cU H n (toInt k v))=_;rw[iG];simp only[Ev.simple];cases Ev.aq T x with
  | none=>rfl
  | some v=>cases v<;>rfl
 case mif t x=>
  show aM (aq x T) (λv=>(some (V.j9 t v,H,n):fY))=_;rw[iG];simp only[Ev.simple];cases Ev.aq T x<;>rfl
 case mfn f a c=>
  show aM (eZ a T) (λa=>aM (eZ c T) λc=>(some (V.f f a c,H,n):fY))=_;rw[J7,J7];simp only[Ev.simple];cases Ev.eZ T a with
  | none=>rfl
  | some v=>cases Ev.eZ T c<;>rfl
 case fad off x=>
  show aM (aq x T) (λv=>aM (J8 v) (SP off H n))=_;rw[iG];simp only[Ev.simple];cases Ev.aq T x with
  | none=>rfl
  | some v=>cases v<;>rfl
 case fld agg off sz x=>
  show aM (aq x T) (λv=>aM (asA v) λl=>cond agg (aM (cw l off sz) λl'=>some (.a l',H,n)) (cU H n (nth l off)))=_;rw[iG];simp only[Ev.simple];cases Ev.aq T x with
  | none=>rfl
  | some v=>
   cases v<;>try rfl
   rename_i l;show cond agg (aM (cw l off sz) λl'=>some (.a l',H,n)) (cU H n (nth l off))=_;rw[nj,oB,kc];cases agg with
   | false=>rfl
   | true=>simp only[cond_true];cases Ev.cw l off sz<;>rfl
 case iad arr z x i=>
  show aM (aq x T) (λv=>aM (aq i T) λi=>aM (NG i) λi=>Ke arr z i v H n)=_;rw[iG,iG];simp only[Ev.simple];cases Ev.aq T x with
  | none=>cases Ev.aq T i<;>rfl
  | some v=>
   cases Ev.aq T i with
   | none=>rfl
   | some u=>
    cases u<;>try rfl
    rename_i k m;cases m with
    | negSucc=>rfl
    | ofNat m=>
     show Ke arr z m v H n=_;cases arr with
     | none=>cases v<;>rfl
     | some q=>cases v<;>rfl
 case idx arr x i=>
  cases arr with
  | some q=>rfl
  | none=>
   show aM (aq x T) (λv=>aM (aq i T) λi=>aM (NG i) λi=>cU H n (Kf i v))=_;rw[iG,iG];simp only[Ev.simple];cases Ev.aq T x with
   | none=>cases Ev.aq T i<;>rfl
   | some v=>
    cases Ev.aq T i with
    | none=>rfl
    | some u=>
     cases u<;>try rfl
     rename_i k m;cases m with
     | negSucc=>rfl
     | ofNat m=>
      show cU H n (Kf m v)=_;cases v<;>try rfl
      rename_i l q;show cU H n (cond (Nat.blt m l) (some (.i .u8 (Int.ofNat (GW q m)))) none)=_;simp only;cases Nat.blt m l<;>rfl
 case ext x i=>
  show aM (aq x T) (λv=>aM (asU v) λl=>cU H n (nth l i))=_;rw[iG];simp only[Ev.simple];cases Ev.aq T x with
  | none=>rfl
  | some v=>
   cases v<;>try rfl
   rename_i l;show cU H n (nth l i)=_;rw[kc,oB]
 case len k x=>
  rcases k with _ | _ | k
  ·show aM (aq x T) (λv=>cU H n (SR v))=_;rw[iG];simp only[Ev.simple];cases Ev.aq T x with
   | none=>rfl
   | some v=>cases v<;>rfl
  ·show aM (aq x T) (λv=>cU H n (SQ v))=_;rw[iG];simp only[Ev.simple];cases Ev.aq T x with
   | none=>rfl
   | some v=>cases v<;>rfl
  ·rfl
end
noncomputable section
def ahn(f:ao)(l:List ao)(ih:cV)(T:Tr V)(H:Hp)(n:K):Option R:=aM (aq f T) λf=>aM (eZ l T) λl=>ih (.call f l) H n
def aho(x:ao)(ih:cV)(T:Tr V)(H:Hp)(n:K):Option R:=Ev.dG ih (.tR x) T H n
def Ys(x:fY):Option R:=aM x λp=>some ⟨.normal,.e,p.1,p.2.1,p.2.2⟩
def SS(s:Tr V->Hp->K->fY)(ih:cV)(T:Tr V)(H:Hp)(n:K):Option R:=Ys (s T H n)
def dG:A->cV->Tr V->Hp->K->Option R
 | .lO f l=>ahn f l
 | .tR x=>aho x
 | o=>SS (simple o)
def ahp(op:A)(h1:∀f l,op≠.lO f l)(h2:∀x,op≠.tR x):dG op=SS (simple op):=by cases op<;>first | rfl | exact absurd rfl (h1 _ _) | exact absurd rfl (h2 _)
def ahq(ih:cV)(op:A)(T:Tr V)(H:Hp)(n:K)(h1:∀f l,op≠.lO f l)(h2:∀x,op≠.tR x):Ev.dG ih op T H n=Ys (Ev.simple op T H n):=by
 cases op<;>first | exact absurd rfl (h1 _ _) | exact absurd rfl (h2 _) | skip
 all_goals
  unfold Ev.dG;simp only;generalize Ev.simple _ T H n=x;cases x<;>rfl
def SU(ih:cV)(op:A)(T:Tr V)(H:Hp)(n:K):dG op ih T H n=Ev.dG ih op T H n:=by
 by_cases h1:∃f l,op=.lO f l
 ·obtain⟨f,l,rfl⟩:=h1;show aM (aq f T) (λf=>aM (eZ l T) λl=>ih (.call f l) H n)=_;rw[iG,J7];simp only[Ev.dG];cases Ev.aq T f<;>cases Ev.eZ T l<;>rfl
 ·by_cases h2:∃x,op=.tR x
  ·obtain⟨x,rfl⟩:=h2;rfl
  ·rw[ahp op (λf l e=>h1 ⟨f,l,e⟩) (λx e=>h2 ⟨x,e⟩),ahq ih op T H n (λf l e=>h1 ⟨f,l,e⟩) (λx e=>h2 ⟨x,e⟩)];show Ys (simple op T H n)=_;rw[ahm]
def da(d:Option K)(v:V)(T:Tr V):Tr V:=Option.casesOn d T (λk=>put (some v) k T)
def FL(d:Option K)(v:V)(T:Tr V):da d v T=Ev.da d (some v) T:=by
 cases d with
 | none=>rfl
 | some k=>exact put_eq _ _ _
def SV(w:Bool)(v:V):Option Bool:=V.casesOn (motive_1:=λ_=>Option Bool) v (λx=>some (cond w x (!x))) (λ_ _=>none) (λ_ _=>none) none (λ_ _=>none) none (λ_ _ _ _=>none) (λ_ _ _ _=>none) none (λ_=>none) none (λ_ _ _=>none) (λ_=>none) none (λ_ _=>none) (λ_=>none) (λl=>List.casesOn l (some false) (λ_ _=>none)) none
def want(g:Option (K×Bool))(T:Tr V):Option Bool:=Option.casesOn g (some true) (λp=>aM (get p.1 T) (SV p.2))
def SW(g:Option (K×Bool))(T:Tr V):want g T=Ev.want g T:=by
 cases g with
 | none=>rfl
 | some p=>
  obtain⟨k,w⟩:=p;show aM (get k T) (SV w)=_;rw[get_eq];simp only[Ev.want];cases T.get k with
  | none=>rfl
  | some v=>
   cases v<;>try rfl
   rename_i l;cases l<;>rfl
def Yt(r:Option R)(T:Tr V)(d:Option K)(rest:Tr V->Hp->K->Option R):Option R:=
 Option.casesOn r none (λr=>R.casesOn r λex _ v H n=>Ex.casesOn ex (rest (da d v T) H n) (λ_=>none) none (λu=>some ⟨.panic u,T,.q,H,n⟩))
def ahr(o:AO)(ih:cV)(rest:Tr V->Hp->K->Option R)(T:Tr V)(H:Hp)(n:K):Option R:=
 AO.casesOn o λdst op guard _=>Option.casesOn (want guard T) none λb=>cond b (Yt (dG op ih T H n) T dst rest) (rest (da dst (.u []) T) H n)
def fc(l:List AO)(ih:cV):Tr V->Hp->K->Option R:=
 List.rec (motive:=λ_=>Tr V->Hp->K->Option R) (λT H n=>some ⟨.normal,T,.q,H,n⟩) (λo _ rest=>ahr o ih rest) l
def ahs(ih:cV)(l:List AO)(T:Tr V)(H:Hp)(n:K):fc l ih T H n=Ev.fc ih l T H n:=by
 induction l generalizing T H n with
 | nil=>rfl
 | cons o l a=>
  obtain⟨dst,op,guard,Δ⟩:=o;show Option.casesOn (motive:=λ_=>Option R) (want guard T) none (λb=>cond b (Yt (dG op ih T H n) T dst (fc l ih)) (fc l ih (da dst (.u []) T) H n))=_;rw[SW,SU];simp only[Ev.fc];cases Ev.want guard T with
  | none=>rfl
  | some b=>
   cases b with
   | false=>show fc l ih (da dst (.u []) T) H n=_;rw[a,FL]
   | true=>
    show Yt (Ev.dG ih op T H n) T dst (fc l ih)=_;cases Ev.dG ih op T H n with
    | none=>rfl
    | some r=>
     obtain⟨ex,T',v,H',n'⟩:=r;cases ex with
     | normal=>show fc l ih (da dst v T) H' n'=_;rw[a,FL]
     | _=>rfl
def oper(op:A)(ih:cV)(T:Tr V)(H:Hp)(n:K):fY:=
 aM (dG op ih T H n) λr=>R.casesOn r λex _ v H n=>Ex.casesOn ex (some (v,H,n)) (λ_=>none) none (λ_=>none)
def xO(ih:cV)(op:A)(T:Tr V)(H:Hp)(n:K):oper op ih T H n=Ev.oper ih op T H n:=by
 unfold oper Ev.oper;rw[SU];cases Ev.dG ih op T H n with
 | none=>rfl
 | some r=>obtain⟨ex,T',v,H',n'⟩:=r;cases ex<;>rfl
def db(Δ:Nat)(m:Made)(H:Hp):Hp:=
 List.rec (motive:=λ_=>Hp->Hp) (λH=>H) (λp _ ih H=>cond (Nat.testBit Δ p.2) (ih H) (ih (put none p.1 H))) m H
def aht(Δ:Nat)(m:Made)(H:Hp):db Δ m H=Ev.db H Δ m:=by
 induction m generalizing H with
 | nil=>rfl
 | cons p m ih=>
  obtain⟨k,i⟩:=p;show cond (Nat.testBit Δ i) (db Δ m H) (db Δ m (put none k H))=_;rw[ih,ih,put_eq];rfl
def back(H:Hp)(Δ:Nat)(m:Made)(H':Hp):Hp:=
 List.rec (motive:=λ_=>Hp->Hp) (λH'=>H') (λp _ ih H'=>cond (Nat.testBit Δ p.2) (ih H') (ih (put (get p.1 H) p.1 H'))) m H'
def back_eq(H:Hp)(Δ:Nat)(m:Made)(H':Hp):back H Δ m H'=Ev.back H H' Δ m:=by
 induction m generalizing H' with
 | nil=>rfl
 | cons p m ih=>
  obtain⟨k,i⟩:=p;show cond (Nat.testBit Δ i) (back H Δ m H') (back H Δ m (put (get k H) k H'))=_;rw[ih,ih,put_eq,get_eq];rfl
def eo(l:List AO)(ih:cV):Nat->Tr V->Hp->K->Made->List Rd->List Bg->Option R:=
 List.rec (motive:=λ_=>Nat->Tr V->Hp->K->Made->List Rd->List Bg->Option R)
  (λ_ T H n m rs bs=>cond (tV m rs bs) (some ⟨.normal,T,.q,H,n⟩) none)
  (λo _ rest i T H n m rs bs=>AO.casesOn o λdst op guard Δ=>Option.casesOn (want guard T) none λb=>cond b
   (aM (oper op ih T (db Δ m H) n) λp=>Prod.casesOn p λv p=>Prod.casesOn p λH' n'=>
    match cls op with
    | .pure=>rest (Nat.succ i) (da dst v T) H n m rs bs
    | .read=>cond (bz n v) (rest (Nat.succ i) (da dst v T) H n m (⟨i,op,Δ,T,v⟩::rs) bs) none
    | .make=>rest (Nat.succ i) (da dst v T) (back H Δ m H') n' ((n,i)::m) rs bs
    | .jP=>rest (Nat.succ i) (da dst v T) (back H Δ m H') n' m rs (⟨i,Δ,H,back H Δ m H'⟩::bs))
   (rest (Nat.succ i) (da dst (.u []) T) H n m rs bs)) l
def ahu(ih:cV)(l:List AO)(i:Nat)(T:Tr V)(H:Hp)(n:K)(m:Made)(rs:List Rd)(bs:List Bg):eo l ih i T H n m rs bs=Ev.eo ih l i T H n m rs bs:=by
 induction l generalizing i T H n m rs bs with
 | nil=>rfl
 | cons o l a=>
  obtain⟨dst,op,guard,Δ⟩:=o;simp only[Ev.eo];rw[←SW,←aht,←xO];show Option.casesOn (motive:=λ_=>Option R) (want guard T) none (λb=>cond b
   (aM (oper op ih T (db Δ m H) n) λp=>Prod.casesOn p λv p=>Prod.casesOn p λH' n'=>
    match cls op with
    | .pure=>eo l ih (Nat.succ i) (da dst v T) H n m rs bs
    | .read=>cond (bz n v) (eo l ih (Nat.succ i) (da dst v T) H n m (⟨i,op,Δ,T,v⟩::rs) bs) none
    | .make=>eo l ih (Nat.succ i) (da dst v T) (back H Δ m H') n' ((n,i)::m) rs bs
    | .jP=>eo l ih (Nat.succ i) (da dst v T) (back H Δ m H') n' m rs (⟨i,Δ,H,back H Δ m H'⟩::bs))
   (eo l ih (Nat.succ i) (da dst (.u []) T) H n m rs bs))=_
  cases want guard T with
  | none=>rfl
  | some b=>
   cases b with
   | false=>show eo l ih _ (da dst (.u []) T) H n m rs bs=_;rw[a,FL]
   | true=>
    simp only[cond_true];cases oper op ih T (db Δ m H) n with
    | none=>rfl
    | some p=>
     obtain⟨v,H',n'⟩:=p;show(match cls op with
      | .pure=>eo l ih (Nat.succ i) (da dst v T) H n m rs bs
      | .read=>cond (bz n v) (eo l ih (Nat.succ i) (da dst v T) H n m (⟨i,op,Δ,T,v⟩::rs) bs) none
      | .make=>eo l ih (Nat.succ i) (da dst v T) (back H Δ m H') n' ((n,i)::m) rs bs
      | .jP=>eo l ih (Nat.succ i) (da dst v T) (back H Δ m H') n' m rs (⟨i,Δ,H,back H Δ m H'⟩::bs))=_
     simp only[FL,back_eq];cases cls op<;>simp only[a]
def ahv(a b:AC)(ih:cV)(T:Tr V)(H:Hp)(n:K):Option R:=
 aM (ih (.code a T) H n) λr=>R.casesOn r λex T v H n=>Ex.casesOn ex (ih (.code b T) H n) (λid=>some ⟨.exit id,T,v,H,n⟩) (some ⟨.ret,T,v,H,n⟩) (λu=>some ⟨.panic u,T,v,H,n⟩)
def Kg(c:ao)(a b:AC)(ih:cV)(T:Tr V)(H:Hp)(n:K):Option R:=
 aM (aq c T) λv=>V.casesOn (motive_1:=λ_=>Option R) v (λx=>cond x (ih (.code a T) H n) (ih (.code b T) H n)) (λ_ _=>none) (λ_ _=>none) none (λ_ _=>none) none (λ_ _ _ _=>none) (λ_ _ _ _=>none) none (λ_=>none) none (λ_ _ _=>none) (λ_=>none) none (λ_ _=>none) (λ_=>none) (λ_=>none) none
def ahw(id:Nat)(c:AC)(ih:cV)(T:Tr V)(H:Hp)(n:K):Option R:=
 aM (ih (.code c T) H n) λr=>R.casesOn r λex T v H n=>Ex.casesOn ex (some ⟨.normal,T,v,H,n⟩) (λa=>cond (Nat.beq id a) (some ⟨.normal,T,v,H,n⟩) (some ⟨.exit a,T,v,H,n⟩)) (some ⟨.ret,T,v,H,n⟩) (λu=>some ⟨.panic u,T,v,H,n⟩)
def ahx(c:AC)(ih:cV)(T:Tr V)(H:Hp)(n:K):Option R:=
 aM (ih (.code c T) H n) λr=>R.casesOn r λex T v H n=>Ex.casesOn ex (ih (.code (.loop c) T) H n) (λid=>some ⟨.exit id,T,v,H,n⟩) (some ⟨.ret,T,v,H,n⟩) (λu=>some ⟨.panic u,T,v,H,n⟩)
def ahy(l:List AO)(ih:cV)(T:Tr V)(H:Hp)(n:K):Option R:=fc l ih T H n
def ahz(l:List AO)(ih:cV)(T:Tr V)(H:Hp)(n:K):Option R:=eo l ih 0 T H n [] [] []
def Kh(ex:Ex)(ih:cV)(T:Tr V)(H:Hp)(n:K):Option R:=some ⟨ex,T,.q,H,n⟩
def ahA(c:AC)(ih:cV)(T:Tr V)(H:Hp)(n:K):Option R:=ih (.code c T) H n
def Ki(c:AC)(ih:cV)(T:Tr V)(H:Hp)(n:K):Option R:=Ev.aS (λ_=>none) ih (.code c T) H n
def code(c:AC):cV->Tr V->Hp->K->Option R:=AC.casesOn (motive:=λ_=>cV->Tr V->Hp->K->Option R) c (Kh .normal) (λa=>ahy a) (λa=>ahz a) (λa b=>ahv a b) (λa b x2=>Kg a b x2) (λa b=>ahw a b) (λa=>ahx a) (λa b x2 d=>Ki (.oX a b x2 d)) (λa=>Kh (.exit a)) (λa=>ahA a) (λa b x2 d x4=>Ki (.jC a b x2 d x4)) (Kh .ret) (Ki .bad)
def ahB(C:Nat->Option aE)(c:AC)(ih:cV)(T:Tr V)(H:Hp)(n:K):code c ih T H n=Ev.aS C ih (.code c T) H n:=by
 cases c<;>try rfl
 case reg l=>exact ahs ih l T H n
 case regd l=>exact ahu ih l 0 T H n [] [] []
 case seq a b=>
  show aM (ih (.code a T) H n) _=_;simp only[Ev.aS];cases ih (.code a T) H n with
  | none=>rfl
  | some r=>obtain⟨ex,T',v,H',n'⟩:=r;cases ex<;>rfl
 case cond x a b=>
  show Kg x a b ih T H n=_;unfold Kg;rw[iG];simp only[Ev.aS];cases Ev.aq T x with
  | none=>rfl
  | some v=>
   cases v<;>try rfl
   rename_i q;cases q<;>rfl
 case block id c=>
  show aM (ih (.code c T) H n) _=_;simp only[Ev.aS];cases ih (.code c T) H n with
  | none=>rfl
  | some r=>
   obtain⟨ex,T',v,H',n'⟩:=r;cases ex<;>rfl
 case loop c=>
  show aM (ih (.code c T) H n) _=_;simp only[Ev.aS];cases ih (.code c T) H n with
  | none=>rfl
  | some r=>obtain⟨ex,T',v,H',n'⟩:=r;cases ex<;>rfl
def binds(ks:List K):List V->Tr V->Option (Tr V):=
 List.rec (motive:=λ_=>List V->Tr V->Option (Tr V)) (λvs T=>List.casesOn vs (some T) (λ_ _=>none)) (λk _ ih vs T=>List.casesOn vs (some T) (λv vs=>ih vs (put (some v) k T))) ks
def ahC(ks:List K)(vs:List V)(T:Tr V):binds ks vs T=Ev.binds ks vs T:=by
 induction ks generalizing vs T with
 | nil=>cases vs<;>rfl
 | cons k ks ih=>
  cases vs with
  | nil=>rfl
  | cons v vs=>show binds ks vs (put (some v) k T)=_;rw[ih,put_eq];rfl
def ahD(af:AF)(l:List V)(ih:cV)(H:Hp)(n:K):Option R:=
 AF.casesOn af λjj res body=>aM (binds jj l .e) λT=>aM (ih (.code body T) H n) λr=>R.casesOn r λex T v H n=>
  Ex.casesOn ex (aM (Ev.qi res T H) λv=>some ⟨.normal,.e,v,H,n⟩) (λ_=>none) (aM (Ev.qi res T H) λv=>some ⟨.normal,.e,v,H,n⟩) (λu=>some ⟨.panic u,.e,.q,H,n⟩)
def Kj(a l c:List V):List V:=a++(l++c)
def ahE(C:Nat->Option aE)(ih:cV)(g:Nat)(a c l:List V)(H:Hp)(n:K):Option R:=
 aM (C g) λfn=>aE.casesOn fn (λaf=>ahD af (Kj a l c) ih H n) (λ_=>Ev.aS C ih (.call (.f g a c) l) H n) (λ_=>Ev.aS C ih (.call (.f g a c) l) H n)
def call(C:Nat->Option aE)(ih:cV)(f:V)(l:List V)(H:Hp)(n:K):Option R:=
 match f with
 | .f g a c=>ahE C ih g a c l H n
 | f=>Ev.aS C ih (.call f l) H n
def ahF(C:Nat->Option aE)(ih:cV)(f:V)(l:List V)(H:Hp)(n:K):call C ih f l H n=Ev.aS C ih (.call f l) H n:=by
 cases f<;>try rfl
 rename_i g a c;show aM (C g) _=_;cases b:C g with
 | none=>simp only[aM,Ev.aS,b]
 | some fn=>
  cases fn with
  | pm p=>rfl
  | xq af=>rfl
  | go af=>
   obtain⟨jj,res,body⟩:=af;show aM (binds jj (Kj a l c) .e) _=_;rw[ahC];simp only[Ev.aS,b,Kj];cases Ev.binds jj (a++(l++c)) .e with
   | none=>rfl
   | some T=>
    show aM (ih (.code body T) H n) _=_;simp only;cases ih (.code body T) H n with
    | none=>rfl
    | some r=>
     obtain⟨ex,T',v,H',n'⟩:=r;cases ex with
     | exit id=>rfl
     | panic u=>rfl
     | normal=>show aM (Ev.qi res T' H') _=_;simp only;cases Ev.qi res T' H'<;>rfl
     | ret=>show aM (Ev.qi res T' H') _=_;simp only;cases Ev.qi res T' H'<;>rfl
def aS(C:Nat->Option aE)(ih:cV)(j:DD):Hp->K->Option R:=DD.casesOn j (λc T=>code c ih T) (λf l=>call C ih f l)
def ahG(C:Nat->Option aE)(ih:cV):aS C ih=Ev.aS C ih:=by
 funext j H n;cases j with
 | code c T=>exact ahB C c ih T H n
 | call f l=>exact ahF C ih f l H n
def ev(C:Nat->Option aE)(f:Nat):cV:=Nat.rec (motive:=λ_=>cV) (λ_ _ _=>none) (λ_ ih=>aS C ih) f
def fW(C:Nat->Option aE)(f:Nat):ev C f=Ev.ev C f:=by
 induction f with
 | zero=>rfl
 | succ f ih=>show aS C (ev C f)=_;rw[ih,ahG];rfl
end
end Go.Ev.F
namespace Go.Ev
open Go
section
section ops
variable {P:Program}{ty:Ty}{C:Nat->Option aE}{ih:cV}{η:Env}{H:Hp}{n:K}{w:World}{fr:Frame}
def anT(I:Good P ty C)(S:kE P ty ih){g:Nat}{l:List V}{af:AF}(J:C g=some (.go af)){T0:Tr V}{v0:V}{H':Hp}{n':K}(k:aS C ih (.call (.f g [] []) l) H n=some ⟨.normal,T0,v0,H',n'⟩)
 {args:List Value}(U:aL η l args)(W:bM η ty.g)(X:aU (WW ty) η H n w)(cs:List Frame):
 ∃η' y s fr,Trans (WW ty) η H n w η' H' n' s/\an η' v0 y/\Steps P (lone (Frame.enter P g args.toArray .normal) cs w) (lone fr cs s)/\fr.fn=g/\fr.leaving P s (.returned y):=by
 obtain⟨fn,L,qu,p⟩:=I.fn g af J;simp only[aS,J]at k;split at k
 case h_2=>cases k
 rename_i T B;unfold sQ at p;split at p
 case h_2=>cases p
 rename_i body rs Y Z;cases D:within fn.ntmps body with
 | false=>rw[D]at p;cases p
 | true=>
  rw[D]at p;simp only[cond_true]at p;injection p with p;subst p;simp only at k B;have O:aL η ([]++(l++[])) args:=by simpa using U
  generalize ff:args=xs at O;let q:Array Value:=xs.toArray;let tm:Array Value:=q++Array.replicate (fn.ntmps - q.size) undef;have xP:fn.ntmps<=tm.size:=by simp only[tm,xm,Array.size_replicate];omega
  have hT:aK η T tm:=by rw[vN]at B;refine IC (tmps:=tm) _ xs 0 _ .e T O (λt v h=>by rw[Tr.gV]at h;cases h) (λj x hj=>?_) B;have ω:=(cZ.1 hj).1;rw[eV];simp only[tm];rw[Array.getElem?_append_left (by simpa[q]using ω)];simpa[q]using hj
  have ID:∀(N M:Nat),N<=M->∀c,within N c=true->within M c=true:=by
   intro N M hNM;have Q:∀l,ij N l=true->ij M l=true:=by
    intro l
    induction l with
    | nil=>intro _;rfl
    | cons o l ih=>
     intro h;simp only[ij,aD]at h ⊢;refine⟨?_,ih h.2⟩;have h1:=h.1;split at h1
     ·rename_i d Q;rw[fF,cC]at h1 ⊢;omega
     ·rfl
   have hb:∀l,m9 N l=true->m9 M l=true:=by
    intro l
    induction l with
    | nil=>intro _;rfl
    | cons d l ih=>
     intro h;simp only[m9,aD]at h ⊢;refine⟨?_,ih h.2⟩;have h1:=h.1;rw[fF,cC]at h1 ⊢;omega
   intro c
   induction c with
   | region id ops dr=>exact Q _
   | seq a b m z=>intro h;simp only[within,aD]at h ⊢;exact⟨m h.1,z h.2⟩
   | cond x a b m z=>intro h;simp only[within,aD]at h ⊢;exact⟨m h.1,z h.2⟩
   | block id a m=>exact m
   | loop a m=>exact m
   | scope a m=>exact m
   | rangeFunc f ps a b m z=>intro h;simp only[within,aD]at h ⊢;exact⟨⟨hb _ h.1.1,m h.1.2⟩,z h.2⟩
   | _=>intro _;rfl
  let i:Frame:={ fn:=g,tmps:=tm,todo:=[.code body],defers:=[],mode:=.run,kind:=.normal};have qv:Frame.enter P g q .normal=put i i.tmps i.defers (.code body::[]):=by simp[Frame.enter,L,Y,put,i,tm]
  have run:∀r1,ih (.code (bV ty body) T) H n=some r1->∃(η':Env) (t':Array Value) (w':World) (bs:List Nat) (k1:List Item),Trans (WW ty) η H n w η' r1.H r1.n w'/\aK η' r1.T t'/\bs.Nodup/\(∀b∈bs,w.heap.size<=b/\w'.heap[b]?=some (.deferred (some [])))/\iV P η' (lone (put i i.tmps i.defers (.code body::[])) cs w) i cs k1 r1.ex t' (bs.map (λb=>{ target:=.collected b,args:=#[]})) w'/\k1=[]:=by
   intro r1 h1;obtain⟨η',t',d',w',g1,g2,E,⟨bs,F,G,A⟩,r⟩:=S _ _ _ _ h1 η w i cs [] body ⟨rfl,ID _ _ xP _ D⟩ hT W X rfl (by intro l h;cases h);have F:d'=bs.map (λb=>{ target:=.collected b,args:=#[]}):=by simpa[i]using F
   subst F;exact⟨η',t',w',bs,[],g1,E,G,λb hb=>⟨(A b hb).1,(A b hb).2.1⟩,r,rfl⟩
  split at k
  ·cases k
  ·cases k
  ·rename_i ex T1 v1 H1 n1 IF IG h1;split at k
   case h_2=>cases k
   rename_i v hv;injection k with k;injection k with dW fQ yM Oj hr5;subst yM;subst Oj;subst hr5;obtain⟨η',t',w',bs,_,g1,E,G,A,r,rfl⟩:=run _ h1;have leave:∃todo,Steps P (lone (put i i.tmps i.defers (.code body::[])) cs w) (lone { put i t' (bs.map (λb=>{ target:=.collected b,args:=#[]})) todo with mode:=.returning} cs w'):=by
    cases ex with
    | normal=>exact⟨_,Steps.trans r (.one (returning rfl rfl))⟩
    | ret=>obtain⟨k1,r⟩:=r;exact⟨_,Steps.trans r (.one (Fa rfl rfl))⟩
    | exit id=>exact(IF id rfl).elim
    | panic u=>exact(IG u rfl).elim
   obtain⟨todo,s1⟩:=leave;obtain⟨s,s2,R⟩:=Fb (P:=P) (cs:=cs) (fr:={ put i t' [] todo with mode:=.returning}) bs w' (by intro h;cases h) g1 A G;obtain⟨y,DH,xR⟩:=IB I.aC E R.rep Z hv;refine⟨η',y,s,{ put i t' [] todo with mode:=.returning},R,xR,?_,rfl,⟨rfl,rfl,rfl,fn,L,DH⟩⟩;show Steps P (lone (Frame.enter P g q .normal) cs w) _;rw[qv];exact Steps.trans s1 s2
  ·cases k
end ops
def anU{P:Program}{ty:Ty}{C:Nat->Option aE}(a:Good P ty C)(hP:J0 P ty C){g:Nat}{l:List V}{af:AF}(b:C g=some (.go af)){H:Hp}{n:K}{Q:V->X.Hf->K->Prop}(c:X.μ C (.f g [] []) l H.get n Q)
 {η:Env}{w:World}{args:List Value}(d:aL η l args)(h:bM η ty.g)(i:aU (WW ty) η H n w):
 Calls P g args.toArray w λe w'=>∃y v η' H' n',e=.returned y/\Q v H'.get n'/\an η' v y/\Trans (WW ty) η H n w η' H' n' w':=by
 intro cs;obtain⟨v,H',n',⟨f0,j⟩,k⟩:=c H rfl;have h1:=j (f0+1) (by omega);obtain⟨η',y,m,fr,t,hv,st,hf,hl⟩:=anT a (SK a hP f0).1 b (h1:aS C (ev C f0) _ _ _=_) d h i cs;exact⟨.returned y,m,fr,⟨y,v,η',H',n',rfl,k,hv,t⟩,st,hf,hl⟩
end
end Go.Ev
