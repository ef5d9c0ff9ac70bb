/- A part of the proof. -/
import Derived.Test.YtpdbepbhlalldaaGreatDoorP
import Derived.Test.YtpdbepbhlalldaaGreatDoorW
import Derived.Test.YtpdbepbhlalldaaGreatDoorF
set_option linter.all false
section
set_option maxRecDepth 1000000
namespace Go.Proofs.YtpdbepbhlalldaaGreatDoor
open Go Go.Ev Go.Proofs.Tryz
def FO{α:Type}(n:K):(K->K)->Tr α->Bool
 | _,.e=>true
 | f,.n v l r=>(match v with | none=>true | some _=>K.cmp false (f .h) n)&&(FO n (λp=>f (.o p)) l&&FO n (λp=>f (.i p)) r)
theorem alL{α:Type}{n:K}:∀{t:Tr α} {f:K->K},FO n f t=true->∀{k:K} {o:α},t.get k=some o->K.cmp false (f k) n=true:=by
 intro t
 induction t with
 | e=>intro f _ k o h;rw[Tr.iz]at h;cases h
 | n v l r lU tX=>
  intro f hb k o h;simp only[FO,bG]at hb;cases k with
  | h=>
   simp only[Tr.get]at h;subst h;exact hb.1
  | o k=>exact lU hb.2.1 h
  | i k=>exact tX hb.2.2 h
theorem alM:ty.g<FK.num:=of_decide_eq_true (by kernel_rfl)
theorem alN:iJ prog ty 5 (.pm (.Ds eM (.b true))):=λH n hs=>
 afl (n0:=FK) (by kernel_rfl) (λk o h=>rL.1 (alL (f:=id) (show FO FK id eM=true by kernel_rfl) h)) alM (λη η' x h=>by cases h;exact .b _) alJ H n hs
noncomputable def Yo:List (Nat×bP):=(267,.pm .vQ)::(5,.pm (.Ds eM (.b true)))::List.zipWith (λg a=>(g,bP.go a)) gs xs
noncomputable def CT(g:Nat):Option bP:=(laid Yo).get (cT g)
theorem Yp:wN (iJ prog ty) Yo:=⟨XT,alN,VM alK⟩
theorem alO:Good prog ty CT:=Mh N8 mixed Yp
theorem alP:EG prog ty CT:=Mi Yp
theorem ct5:CT 5=some (.pm (.Ds eM (.b true))):=by kernel_rfl
theorem cdT:X.Cd CT:=by constructor<;>kernel_rfl
theorem alR{α:Type}{eq:α->α->Bool}:∀{t t':Tr α},(∀k o,t.get k=some o->∃o',t'.get k=some o'/\eq o o'=true)->gk eq t t'=true:=by
 intro t
 induction t with
 | e=>intro t' h;cases t'<;>rfl
 | n v l r lU tX=>
  intro t' h;cases t' with
  | e=>
   have hv:v=none:=by
    cases v with
    | none=>rfl
    | some o=>obtain⟨o',h1,_⟩:=h .h o rfl;rw[Tr.iz]at h1;cases h1
   subst hv;have h1:gk eq l .e=true:=lU λk o hk=>by obtain⟨o',h1,_⟩:=h (.o k) o hk;rw[Tr.iz]at h1;cases h1
   have h2:gk eq r .e=true:=tX λk o hk=>by obtain⟨o',h1,_⟩:=h (.i k) o hk;rw[Tr.iz]at h1;cases h1
   simp only[gk,h1,h2,nN]
  | n v' l' r'=>
   have h1:gk eq l l'=true:=lU λk o hk=>h (.o k) o hk;have h2:gk eq r r'=true:=tX λk o hk=>h (.i k) o hk;cases v with
   | none=>simp only[gk,h1,h2,nN]
   | some o=>
    obtain⟨o',h4,h5⟩:=h .h o rfl;simp only[Tr.get]at h4;subst h4;simp only[gk,h1,h2,h5,nN]
theorem Aq{α:Type}{eq:α->α->Bool}:∀{t t':Tr α},gk eq t t'=true->∀{k:K} {o:α},t.get k=some o->∃o',t'.get k=some o'/\eq o o'=true:=by
 intro t
 induction t with
 | e=>intro t' _ k o h;rw[Tr.iz]at h;cases h
 | n v l r lU tX=>
  intro t' ht k o h;cases t' with
  | e=>
   simp only[gk,bG]at ht;obtain⟨⟨h1,h2⟩,h3⟩:=ht;cases k with
   | h=>simp only[Tr.get]at h;subst h;cases h1
   | o k=>obtain⟨o',h4,h5⟩:=lU h2 h;rw[Tr.iz]at h4;cases h4
   | i k=>obtain⟨o',h4,h5⟩:=tX h3 h;rw[Tr.iz]at h4;cases h4
  | n v' l' r'=>
   simp only[gk,bG]at ht;obtain⟨⟨h1,h2⟩,h3⟩:=ht;cases k with
   | h=>
    simp only[Tr.get]at h;subst h;cases v' with
    | none=>cases h1
    | some o'=>exact⟨o',rfl,h1⟩
   | o k=>exact lU h2 h
   | i k=>exact tX h3 h
def GA(h:X.Hf)(n:K):Prop:=∀k o,eM.get k=some o->k.num<n.num/\h k=some o
theorem GA.ext{h h':X.Hf}{n n':K}(a:GA h n)(e:X.Ext h n h' n'):GA h' n':=λk o hk=>⟨fN (a k o hk).1 e.1,by rw[e.2 _ (a k o hk).1];exact(a k o hk).2⟩
theorem alS{k:K}{o:O}(h:eM.get k=some o):vU o o=true:=by obtain⟨o',h1,h2⟩:=Aq (show gk vU eM eM=true by kernel_rfl) h;rw[h]at h1;injection h1 with h1;rw[←h1]at h2;exact h2
theorem alT{h:X.Hf}{n:K}{Q:V->X.Hf->K->Prop}(g:GA h n)(hQ:Q (.b true) h n):X.τ CT (.f 5 [] []) [] h n Q:=
 X.τ.pm ct5 λH hH=>⟨.b true,H,n,by
  have:gk vU eM H=true:=alR λk o hk=>⟨o,by rw[hH];exact(g k o hk).2,alS hk⟩;show(bif gk vU eM H then some (V.b true,H,n) else none)=_
  rw[this];rfl,by rw[hH];exact hQ⟩
theorem FP:eM.get .h=some (.r X.conn):=by kernel_rfl
theorem alU{η:Env}{H:Hp}{n:K}{W:World}{args:List Value}{op:Int}{vv vl:V}{vars:List (X.S×X.S)}{l:List (List (List X.Nd))}(hH:bM (WW ty) η H n W)(hG:cM η ty.g)(jY:bB η [.i .i64 op,vv,vl] args)(hg:GA H.get n)
 (Bb:∀v∈vars,v.1.length<10000000)(hx:∀x∈l,∀t∈x,X.Fc t)(hv:X.fC H.get n vv vars)(hl:X.ju H.get n vl l):
 Calls prog 4 args.toArray W λe w'=>e=.returned (.bool true)/\∃η' H' n',Trans (WW ty) η H n W η' H' n' w':=by
 have hw:X.τ CT (.f 4 [] []) [.i .i64 op,vv,vl] H.get n (λv _ _=>v=.b true):=X.w4 cdT Bb hx (G:=GA) (λg e=>g.ext e) (λg hq=>alT g hq) hg (hg .h _ FP) hv hl (λ_ _=>rfl);have:=ak2 alO (VI alP) cdT.f4 hw jY hG hH;intro cs;obtain⟨e,w',fr,⟨y,v,η',H',n',he,hv,hr,ht⟩,h2⟩:=this cs;subst hv;cases hr;exact⟨e,w',fr,⟨he,η',H',n',ht⟩,h2⟩
end Go.Proofs.YtpdbepbhlalldaaGreatDoor
end
