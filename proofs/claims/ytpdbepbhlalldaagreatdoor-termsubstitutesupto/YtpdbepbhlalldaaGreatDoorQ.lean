/- A part of the proof. -/
import Derived.Test.YtpdbepbhlalldaaGreatDoorP
import Derived.Test.YtpdbepbhlalldaaGreatDoorX
import Derived.Test.YtpdbepbhlalldaaGreatDoorF
set_option linter.all false
section
set_option maxRecDepth 1000000
namespace Go.Proofs.YtpdbepbhlalldaaGreatDoor
open Go Go.Ev Go.Proofs.Tryz
def Cs{α:Type}(n:K):(K->K)->Tr α->Bool
 | _,.e=>true
 | f,.n v l r=>(match v with | none=>true | some _=>K.cmp false (f .h) n)&&(Cs n (λp=>f (.o p)) l&&Cs n (λp=>f (.i p)) r)
def ame{α:Type}{n:K}:∀{t:Tr α} {f:K->K},Cs n f t=true->∀{k:K} {o:α},t.get k=some o->K.cmp false (f k) n=true:=by
 intro t
 induction t with
 | e=>intro f _ k o h;rw[Tr.gf]at h;cases h
 | n v l r a b=>
  intro f hb k o h;simp only[Cs,aK]at hb;cases k with
  | h=>
   simp only[Tr.get]at h;subst h;exact hb.1
  | o k=>exact a hb.2.1 h
  | i k=>exact b hb.2.2 h
def amf:ty.g<Cq.num:=of_decide_eq_true (by kernel_rfl)
def amg:fi prog ty 5 (.pm (.zY gU (.b true))):=λH n hs=>
 aeP (n0:=Cq) (by kernel_rfl) (λk o h=>px.1 (ame (f:=id) (show Cs Cq id gU=true by kernel_rfl) h)) amf (λη η' x h=>by cases h;exact .b _) amc H n hs
noncomputable def Vt:List (Nat×aI):=(267,.pm .rZ)::(5,.pm (.zY gU (.b true)))::List.zipWith (λg a=>(g,aI.go a)) gs xs
noncomputable def CT(g:Nat):Option aI:=(laid Vt).get (bL g)
def Vu:Each (fi prog ty) Vt:=⟨T5,amg,EB amd⟩
def amh:Good prog ty CT:=IV Lc mixed Vu
def ami:Bl prog ty CT:=IW Vu
def ct5:CT 5=some (.pm (.zY gU (.b true))):=by kernel_rfl
def cdT:X.fh CT:=by constructor<;>first | (show _=_;kernel_rfl) | (constructor<;>(show _=_;kernel_rfl))
def amk{α:Type}{eq:α->α->Bool}:∀{t t':Tr α},(∀k o,t.get k=some o->∃o',t'.get k=some o'/\eq o o'=true)->eP eq t t'=true:=by
 intro t
 induction t with
 | e=>intro t' h;cases t'<;>rfl
 | n v l r b c=>
  intro t' h;cases t' with
  | e=>
   have hv:v=none:=by
    cases v with
    | none=>rfl
    | some o=>obtain⟨o',h1,_⟩:=h .h o rfl;rw[Tr.gf]at h1;cases h1
   subst hv;have h1:eP eq l .e=true:=b λk o a=>by obtain⟨o',h1,_⟩:=h (.o k) o a;rw[Tr.gf]at h1;cases h1
   have h2:eP eq r .e=true:=c λk o a=>by obtain⟨o',h1,_⟩:=h (.i k) o a;rw[Tr.gf]at h1;cases h1
   simp only[eP,h1,h2,hK]
  | n v' l' r'=>
   have h1:eP eq l l'=true:=b λk o a=>h (.o k) o a;have h2:eP eq r r'=true:=c λk o a=>h (.i k) o a;cases v with
   | none=>simp only[eP,h1,h2,hK]
   | some o=>
    obtain⟨o',h4,h5⟩:=h .h o rfl;simp only[Tr.get]at h4;subst h4;simp only[eP,h1,h2,h5,hK]
def wC{α:Type}{eq:α->α->Bool}:∀{t t':Tr α},eP eq t t'=true->∀{k:K} {o:α},t.get k=some o->∃o',t'.get k=some o'/\eq o o'=true:=by
 intro t
 induction t with
 | e=>intro t' _ k o h;rw[Tr.gf]at h;cases h
 | n v l r a b=>
  intro t' ht k o h;cases t' with
  | e=>
   simp only[eP,aK]at ht;obtain⟨⟨h1,h2⟩,h3⟩:=ht;cases k with
   | h=>simp only[Tr.get]at h;subst h;cases h1
   | o k=>obtain⟨o',h4,h5⟩:=a h2 h;rw[Tr.gf]at h4;cases h4
   | i k=>obtain⟨o',h4,h5⟩:=b h3 h;rw[Tr.gf]at h4;cases h4
  | n v' l' r'=>
   simp only[eP,aK]at ht;obtain⟨⟨h1,h2⟩,h3⟩:=ht;cases k with
   | h=>
    simp only[Tr.get]at h;subst h;cases v' with
    | none=>cases h1
    | some o'=>exact⟨o',rfl,h1⟩
   | o k=>exact a h2 h
   | i k=>exact b h3 h
def GA(h:X.Hf)(n:K):Prop:=∀k o,gU.get k=some o->k.num<n.num/\h k=some o
def GA.ext{h h':X.Hf}{n n':K}(a:GA h n)(e:X.Ext h n h' n'):GA h' n':=λk o b=>⟨ep (a k o b).1 e.1,by rw[e.2 _ (a k o b).1];exact(a k o b).2⟩
def aml{k:K}{o:O}(h:gU.get k=some o):sb o o=true:=by obtain⟨o',h1,h2⟩:=wC (show eP sb gU gU=true by kernel_rfl) h;rw[h]at h1;injection h1 with h1;rw[←h1]at h2;exact h2
def amm{h:X.Hf}{n:K}{Q:V->X.Hf->K->Prop}(g:GA h n)(d:Q (.b true) h n):X.ν CT (.f 5 [] []) [] h n Q:=
 X.ν.pm ct5 λH a=>⟨.b true,H,n,by
  have:eP sb gU H=true:=amk λk o c=>⟨o,by rw[a];exact(g k o c).2,aml c⟩;show(bif eP sb gU H then some (V.b true,H,n) else none)=_
  rw[this];rfl,by rw[a];exact d⟩
def Ct:gU.get .h=some (.r X.conn):=by kernel_rfl
def amn{η:Env}{H:Hp}{n:K}{W:World}{args:List Value}{a vl:V}{ts:List X.Nd}{l:List X.Bi}(d:aV (WW ty) η H n W)(i:bD η ty.g)(j:aN η [a,vl] args)(c:GA H.get n)
 (k:X.zF ts)(hlen:l.length<10000000)(m:∀b∈l,X.zF b.2)(ht:X.aZ H.get n a ts)(hl:X.dZ H.get n vl l):
 Calls prog 3 args.toArray W λe w'=>e=.returned (.bool true)/\∃η' H' n',Trans (WW ty) η H n W η' H' n' w':=by
 have o:X.ν CT (.f 3 [] []) [a,vl] H.get n (λv _ _=>v=.b true):=X.w3 cdT (φ 2000000) hlen k m (G:=GA) (λg e=>g.ext e) (λg p=>amm g p) c (c .h _ Ct) ht hl (λ_ _=>rfl);have:=alk amh (Rf ami) cdT.f3 o j i d;intro cs;obtain⟨e,w',fr,⟨y,v,η',H',n',he,hv,q,ht⟩,h2⟩:=this cs;subst hv;cases q;exact⟨e,w',fr,⟨he,η',H',n',ht⟩,h2⟩
end Go.Proofs.YtpdbepbhlalldaaGreatDoor
end
