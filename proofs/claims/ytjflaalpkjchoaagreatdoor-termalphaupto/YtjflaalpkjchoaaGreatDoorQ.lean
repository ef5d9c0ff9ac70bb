/- A part of the proof. -/
import Derived.Test.YtjflaalpkjchoaaGreatDoorP
import Derived.Test.YtjflaalpkjchoaaGreatDoorZ
import Derived.Test.YtjflaalpkjchoaaGreatDoorF
set_option linter.all false
section
set_option maxRecDepth 1000000
namespace Go.Proofs.YtjflaalpkjchoaaGreatDoor
open Go Go.Ev Go.Proofs.Tryz
def Dz{α:Type}(n:K):(K->K)->Tr α->Bool
 | _,.e=>true
 | f,.n v l r=>(match v with | none=>true | some _=>K.cmp false (f .h) n)&&(Dz n (λp=>f (.o p)) l&&Dz n (λp=>f (.i p)) r)
def aoL{α:Type}{n:K}:∀{t:Tr α} {f:K->K},Dz n f t=true->∀{k:K} {o:α},t.get k=some o->K.cmp false (f k) n=true:=by
 intro t
 induction t with
 | e=>intro f _ k o h;rw[Tr.gV]at h;cases h
 | n v l r a b=>
  intro f hb k o h;simp only[Dz,aD]at hb;cases k with
  | h=>
   simp only[Tr.get]at h;subst h;exact hb.1
  | o k=>exact a hb.2.1 h
  | i k=>exact b hb.2.2 h
def aoM:ty.g<Dx.num:=of_decide_eq_true (by kernel_rfl)
def aoN:fV prog ty 5 (.pm (.BC iT (.b true))):=λH n hs=>
 agP (n0:=Dx) (by kernel_rfl) (λk o h=>qw.1 (aoL (f:=id) (show Dz Dx id iT=true by kernel_rfl) h)) aoM (λη η' x h=>by cases h;exact .b _) aoJ H n hs
noncomputable def XL:List (Nat×aE):=(260,.pm .tS)::(5,.pm (.BC iT (.b true)))::List.zipWith (λg a=>(g,aE.go a)) gs xs
noncomputable def CT(g:Nat):Option aE:=(laid XL).get (bF g)
def XM:Each (fV prog ty) XL:=⟨Wi,aoN,FJ aoK⟩
def aoO:Good prog ty CT:=J4 Mw mixed XM
def aoP:Cv prog ty CT:=J5 XM
def ct5:CT 5=some (.pm (.BC iT (.b true))):=by kernel_rfl
def cdT:X.Cd CT:=by constructor<;>(show _=_;kernel_rfl)
def aoR{α:Type}{eq:α->α->Bool}:∀{t t':Tr α},(∀k o,t.get k=some o->∃o',t'.get k=some o'/\eq o o'=true)->fP eq t t'=true:=by
 intro t
 induction t with
 | e=>intro t' h;cases t'<;>rfl
 | n v l r b c=>
  intro t' h;cases t' with
  | e=>
   have hv:v=none:=by
    cases v with
    | none=>rfl
    | some o=>obtain⟨o',h1,_⟩:=h .h o rfl;rw[Tr.gV]at h1;cases h1
   subst hv;have h1:fP eq l .e=true:=b λk o a=>by obtain⟨o',h1,_⟩:=h (.o k) o a;rw[Tr.gV]at h1;cases h1
   have h2:fP eq r .e=true:=c λk o a=>by obtain⟨o',h1,_⟩:=h (.i k) o a;rw[Tr.gV]at h1;cases h1
   simp only[fP,h1,h2,iX]
  | n v' l' r'=>
   have h1:fP eq l l'=true:=b λk o a=>h (.o k) o a;have h2:fP eq r r'=true:=c λk o a=>h (.i k) o a;cases v with
   | none=>simp only[fP,h1,h2,iX]
   | some o=>
    obtain⟨o',h4,h5⟩:=h .h o rfl;simp only[Tr.get]at h4;subst h4;simp only[fP,h1,h2,h5,iX]
def wm{α:Type}{eq:α->α->Bool}:∀{t t':Tr α},fP eq t t'=true->∀{k:K} {o:α},t.get k=some o->∃o',t'.get k=some o'/\eq o o'=true:=by
 intro t
 induction t with
 | e=>intro t' _ k o h;rw[Tr.gV]at h;cases h
 | n v l r a b=>
  intro t' ht k o h;cases t' with
  | e=>
   simp only[fP,aD]at ht;obtain⟨⟨h1,h2⟩,h3⟩:=ht;cases k with
   | h=>simp only[Tr.get]at h;subst h;cases h1
   | o k=>obtain⟨o',h4,h5⟩:=a h2 h;rw[Tr.gV]at h4;cases h4
   | i k=>obtain⟨o',h4,h5⟩:=b h3 h;rw[Tr.gV]at h4;cases h4
  | n v' l' r'=>
   simp only[fP,aD]at ht;obtain⟨⟨h1,h2⟩,h3⟩:=ht;cases k with
   | h=>
    simp only[Tr.get]at h;subst h;cases v' with
    | none=>cases h1
    | some o'=>exact⟨o',rfl,h1⟩
   | o k=>exact a h2 h
   | i k=>exact b h3 h
def GA(h:X.Hf)(n:K):Prop:=∀k o,iT.get k=some o->k.num<n.num/\h k=some o
def GA.ext{h h':X.Hf}{n n':K}(a:GA h n)(e:X.Ext h n h' n'):GA h' n':=λk o b=>⟨eE (a k o b).1 e.1,by rw[e.2 _ (a k o b).1];exact(a k o b).2⟩
def aoS{k:K}{o:O}(h:iT.get k=some o):tW o o=true:=by obtain⟨o',h1,h2⟩:=wm (show fP tW iT iT=true by kernel_rfl) h;rw[h]at h1;injection h1 with h1;rw[←h1]at h2;exact h2
def aoT{h:X.Hf}{n:K}{Q:V->X.Hf->K->Prop}(g:GA h n)(d:Q (.b true) h n):X.μ CT (.f 5 [] []) [] h n Q:=
 X.μ.pm ct5 λH a=>⟨.b true,H,n,by
  have:fP tW iT H=true:=aoR λk o c=>⟨o,by rw[a];exact(g k o c).2,aoS c⟩;show(bif fP tW iT H then some (V.b true,H,n) else none)=_
  rw[this];rfl,by rw[a];exact d⟩
def DA:iT.get .h=some (.r X.conn):=by kernel_rfl
def aoU{η:Env}{H:Hp}{n:K}{W:World}{args:List Value}{a vl:V}{ts:List X.Nd}{l:List X.Bi}(d:aU (WW ty) η H n W)(i:bM η ty.g)(j:aL η [a,vl] args)(c:GA H.get n)
 (k:X.A6 ts)(hlen:l.length<10000000)(m:∀b∈l,X.A6 b.2)(ht:X.bK H.get n a ts)(hl:X.fL H.get n vl l):
 Calls prog 3 args.toArray W λe w'=>e=.returned (.bool true)/\∃η' H' n',Trans (WW ty) η H n W η' H' n' w':=by
 have o:X.μ CT (.f 3 [] []) [a,vl] H.get n (λv _ _=>v=.b true):=X.w3 cdT (ξ 2000000) hlen k m (G:=GA) (λg e=>g.ext e) (λg p=>aoT g p) c (c .h _ DA) ht hl (λ_ _=>rfl);have:=anU aoO (SL aoP) cdT.f3 o j i d;intro cs;obtain⟨e,w',fr,⟨y,v,η',H',n',he,hv,q,ht⟩,h2⟩:=this cs;subst hv;cases q;exact⟨e,w',fr,⟨he,η',H',n',ht⟩,h2⟩
end Go.Proofs.YtjflaalpkjchoaaGreatDoor
end
