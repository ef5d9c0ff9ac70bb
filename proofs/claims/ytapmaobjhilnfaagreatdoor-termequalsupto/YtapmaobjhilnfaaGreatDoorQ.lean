/- A part of the proof. -/
import Derived.Test.YtapmaobjhilnfaaGreatDoorP
import Derived.Test.YtapmaobjhilnfaaGreatDoorI
import Derived.Test.YtapmaobjhilnfaaGreatDoorF
set_option linter.all false
section
set_option maxRecDepth 1000000
namespace Go.Proofs.YtapmaobjhilnfaaGreatDoor
open Go Go.Ev Go.Proofs.Tryz
def F2{α:Type}(n:K):(K->K)->Tr α->Bool
 | _,.e=>true
 | f,.n v l r=>(match v with | none=>true | some _=>K.cmp false (f .h) n)&&(F2 n (λp=>f (.o p)) l&&F2 n (λp=>f (.i p)) r)
theorem aof{α:Type}{n:K}:∀{t:Tr α} {f:K->K},F2 n f t=true->∀{k:K} {o:α},t.get k=some o->K.cmp false (f k) n=true:=by
 intro t
 induction t with
 | e=>intro f _ k o h;rw[Tr.gZ]at h;cases h
 | n v l r kR qf=>
  intro f hb k o h;simp only[F2,bh]at hb;cases k with
  | h=>
   simp only[Tr.get]at h;subst h;exact hb.1
  | o k=>exact kR hb.2.1 h
  | i k=>exact qf hb.2.2 h
theorem aog:ty.g<FY.num:=of_decide_eq_true (by kernel_rfl)
theorem aoh:σ prog ty 4 (.pm (.DE eB (.b true))):=λH n hs=>
 aev (n0:=FY) (by kernel_rfl) (λk o h=>rG.1 (aof (f:=id) (show F2 FY id eB=true by kernel_rfl) h)) aog (λη η' x h=>by cases h;exact .b _) amT H n hs
noncomputable def XQ:List (Nat×bN):=[(232,.pm .wB),(4,.pm (.DE eB (.b true))),(3,.go X.f3),(5,.go X.f5),(23,.go X.f23),(24,.go X.f24),(7,.go X.f7),(28,.go X.f28),(29,.go X.f29),(6,.go X.f6),(26,.go X.f26),(38,.go X.f38),(25,.go X.f25),(53,.go X.f53),(131,.go X.f131),(68,.go X.f68),(149,.go X.f149),(212,.go X.f212),(73,.go X.f73),(69,.go X.f69),(104,.go X.f104),(70,.go X.f70),(150,.go X.f150),(213,.go X.f213),(261,.go X.f261),(292,.go X.f292),(214,.go X.f214),(215,.go X.f215),(151,.go X.f151),(191,.go X.f191),(246,.go X.f246),(279,.go X.f279),(169,.go X.f169),(275,.go X.f275),(306,.go X.f306),(322,.go X.f322),(216,.go X.f216),(262,.go X.f262),(217,.go X.f217),(218,.go X.f218),(263,.go X.f263),(293,.go X.f293),(265,.go X.f265),(294,.go X.f294),(295,.go X.f295),(264,.go X.f264),(219,.go X.f219),(220,.go X.f220),(266,.go X.f266),(286,.go X.f286),(314,.go X.f314),(297,.go X.f297),(316,.go X.f316),(296,.go X.f296),(288,.go X.f288),(298,.go X.f298),(287,.go X.f287),(221,.go X.f221),(42,.go X.f42),(100,.go X.f100),(176,.go X.f176),(240,.go X.f240),(96,.go X.f96),(274,.go X.f274),(241,.go X.f241),(242,.go X.f242),(243,.go X.f243),(71,.go X.f71),(95,.go X.f95),(168,.go X.f168),(144,.go X.f144),(208,.go X.f208),(72,.go X.f72),(152,.go X.f152),(74,.go X.f74),(27,.go X.f27),(75,.go X.f75),(153,.go X.f153),(76,.go X.f76),(8,.go X.f8),(31,.go X.f31),(77,.go X.f77),(30,.go X.f30),(78,.go X.f78),(80,.go X.f80),(79,.go X.f79),(81,.go X.f81),(154,.go X.f154),(82,.go X.f82),(155,.go X.f155),(158,.go X.f158),(223,.go X.f223),(267,.go X.f267),(159,.go X.f159),(224,.go X.f224),(227,.go X.f227),(269,.go X.f269),(226,.go X.f226),(268,.go X.f268),(299,.go X.f299),(317,.go X.f317),(318,.go X.f318),(329,.go X.f329),(319,.go X.f319),(300,.go X.f300),(302,.go X.f302),(301,.go X.f301),(320,.go X.f320),(303,.go X.f303),(321,.go X.f321),(225,.go X.f225),(156,.go X.f156),(222,.go X.f222),(83,.go X.f83),(157,.go X.f157),(84,.go X.f84),(85,.go X.f85),(32,.go X.f32),(86,.go X.f86),(87,.go X.f87),(160,.go X.f160),(228,.go X.f228),(9,.go X.f9),(33,.go X.f33),(34,.go X.f34),(88,.go X.f88),(89,.go X.f89),(10,.go X.f10)]
noncomputable def CT(g:Nat):Option bN:=(laid XQ).get (cz g)
theorem XR:AD (σ prog ty) XQ:=⟨Xl,aoh,g3,g5,g23,g24,g7,g28,O2,g6,g26,g38,Zc,g53,amU,g68,amV,amW,g73,g69,amX,g70,amY,amZ,am0,am1,am2,am3,am4,am5,am6,am7,am8,am9,ana,anb,ane,anf,ang,anh,ani,anj,ank,anl,anm,ann,ano,anp,anq,anr,ans,ant,anu,anv,anw,anx,anz,anA,g42,anB,anC,anD,g96,anE,anF,anG,anH,g71,g95,anI,anJ,anK,g72,anL,g74,JK,g75,anM,g76,g8,g31,g77,g30,g78,g80,g79,g81,anN,g82,anO,anP,anQ,anR,anS,anT,anU,anV,anW,anX,anY,anZ,an0,an1,an2,an3,an4,an5,an6,an7,an8,an9,aoa,aob,g83,aoc,g84,g85,g32,g86,g87,aod,aoe,g9,g33,g34,g88,g89,YU,trivial⟩
theorem aoi:Good prog ty CT:=L8 NY mixed XR
theorem aoj:E8 prog ty CT:=L9 XR
theorem ct4:CT 4=some (.pm (.DE eB (.b true))):=by kernel_rfl
theorem cdT:X.Cd CT:=⟨by kernel_rfl,by kernel_rfl,by kernel_rfl,by kernel_rfl,by kernel_rfl,by kernel_rfl,by kernel_rfl,by kernel_rfl,by kernel_rfl,by kernel_rfl,by kernel_rfl,by kernel_rfl,by kernel_rfl,by kernel_rfl,by kernel_rfl,by kernel_rfl,by kernel_rfl,by kernel_rfl,by kernel_rfl,by kernel_rfl,by kernel_rfl,by kernel_rfl,by kernel_rfl,by kernel_rfl,by kernel_rfl,by kernel_rfl,by kernel_rfl,by kernel_rfl,by kernel_rfl,by kernel_rfl,by kernel_rfl,by kernel_rfl,by kernel_rfl,by kernel_rfl,by kernel_rfl,by kernel_rfl,by kernel_rfl,by kernel_rfl,by kernel_rfl,by kernel_rfl,by kernel_rfl,by kernel_rfl,by kernel_rfl,by kernel_rfl,by kernel_rfl,by kernel_rfl,by kernel_rfl,by kernel_rfl,by kernel_rfl,by kernel_rfl,by kernel_rfl,by kernel_rfl,by kernel_rfl,by kernel_rfl,by kernel_rfl,by kernel_rfl,by kernel_rfl,by kernel_rfl,by kernel_rfl,by kernel_rfl,by kernel_rfl,by kernel_rfl,by kernel_rfl,by kernel_rfl,by kernel_rfl,by kernel_rfl,by kernel_rfl,by kernel_rfl,by kernel_rfl,by kernel_rfl,by kernel_rfl,by kernel_rfl,by kernel_rfl,by kernel_rfl,by kernel_rfl,by kernel_rfl,by kernel_rfl,by kernel_rfl,by kernel_rfl,by kernel_rfl,by kernel_rfl,by kernel_rfl,by kernel_rfl,by kernel_rfl,by kernel_rfl,by kernel_rfl,by kernel_rfl,by kernel_rfl,by kernel_rfl,by kernel_rfl,by kernel_rfl,by kernel_rfl,by kernel_rfl,by kernel_rfl,by kernel_rfl,by kernel_rfl,by kernel_rfl,by kernel_rfl,by kernel_rfl,by kernel_rfl,by kernel_rfl,by kernel_rfl,by kernel_rfl,by kernel_rfl,by kernel_rfl,by kernel_rfl,by kernel_rfl,by kernel_rfl,by kernel_rfl,by kernel_rfl,by kernel_rfl,by kernel_rfl,by kernel_rfl,by kernel_rfl,by kernel_rfl,by kernel_rfl,by kernel_rfl,by kernel_rfl,by kernel_rfl,by kernel_rfl,by kernel_rfl,by kernel_rfl,by kernel_rfl,by kernel_rfl,by kernel_rfl,by kernel_rfl,by kernel_rfl⟩
theorem aol{α:Type}{eq:α->α->Bool}:∀{t t':Tr α},(∀k o,t.get k=some o->∃o',t'.get k=some o'/\eq o o'=true)->fP eq t t'=true:=by
 intro t
 induction t with
 | e=>intro t' h;cases t'<;>rfl
 | n v l r kR qf=>
  intro t' h;cases t' with
  | e=>
   have hv:v=none:=by
    cases v with
    | none=>rfl
    | some o=>obtain⟨o',h1,_⟩:=h .h o rfl;rw[Tr.gZ]at h1;cases h1
   subst hv;have h1:fP eq l .e=true:=kR λk o hk=>by obtain⟨o',h1,_⟩:=h (.o k) o hk;rw[Tr.gZ]at h1;cases h1
   have h2:fP eq r .e=true:=qf λk o hk=>by obtain⟨o',h1,_⟩:=h (.i k) o hk;rw[Tr.gZ]at h1;cases h1
   simp only[fP,h1,h2,om]
  | n v' l' r'=>
   have h1:fP eq l l'=true:=kR λk o hk=>h (.o k) o hk;have h2:fP eq r r'=true:=qf λk o hk=>h (.i k) o hk;cases v with
   | none=>simp only[fP,h1,h2,om]
   | some o=>
    obtain⟨o',h4,h5⟩:=h .h o rfl;simp only[Tr.get]at h4;subst h4;simp only[fP,h1,h2,h5,om]
theorem AA{α:Type}{eq:α->α->Bool}:∀{t t':Tr α},fP eq t t'=true->∀{k:K} {o:α},t.get k=some o->∃o',t'.get k=some o'/\eq o o'=true:=by
 intro t
 induction t with
 | e=>intro t' _ k o h;rw[Tr.gZ]at h;cases h
 | n v l r kR qf=>
  intro t' ht k o h;cases t' with
  | e=>
   simp only[fP,bh]at ht;obtain⟨⟨h1,h2⟩,h3⟩:=ht;cases k with
   | h=>simp only[Tr.get]at h;subst h;cases h1
   | o k=>obtain⟨o',h4,h5⟩:=kR h2 h;rw[Tr.gZ]at h4;cases h4
   | i k=>obtain⟨o',h4,h5⟩:=qf h3 h;rw[Tr.gZ]at h4;cases h4
  | n v' l' r'=>
   simp only[fP,bh]at ht;obtain⟨⟨h1,h2⟩,h3⟩:=ht;cases k with
   | h=>
    simp only[Tr.get]at h;subst h;cases v' with
    | none=>cases h1
    | some o'=>exact⟨o',rfl,h1⟩
   | o k=>exact kR h2 h
   | i k=>exact qf h3 h
def GA(h:X.Hf)(n:K):Prop:=∀k o,eB.get k=some o->k.num<n.num/\h k=some o
theorem GA.ext{h h':X.Hf}{n n':K}(a:GA h n)(e:X.Ext h n h' n'):GA h' n':=λk o hk=>⟨fk (a k o hk).1 e.1,by rw[e.2 _ (a k o hk).1];exact(a k o hk).2⟩
theorem aom{k:K}{o:O}(h:eB.get k=some o):wF o o=true:=by obtain⟨o',h1,h2⟩:=AA (show fP wF eB eB=true by kernel_rfl) h;rw[h]at h1;injection h1 with h1;rw[←h1]at h2;exact h2
theorem aon{h:X.Hf}{n:K}{Q:V->X.Hf->K->Prop}(g:GA h n)(hQ:Q (.b true) h n):X.τ CT (.f 4 [] []) [] h n Q:=
 X.τ.pm ct4 λH hH=>⟨.b true,H,n,by
  have:fP wF eB H=true:=aol λk o hk=>⟨o,by rw[hH];exact(g k o hk).2,aom hk⟩;show(bif fP wF eB H then some (V.b true,H,n) else none)=_
  rw[this];rfl,by rw[hH];exact hQ⟩
theorem F3:eB.get .h=some (.r X.conn):=by kernel_rfl
theorem aoo{η:Env}{H:Hp}{n:K}{W:World}{args:List Value}{ta tb:V}{a b:List X.Nd}(hH:bk (WW ty) η H n W)(hG:ch η ty.g)(jI:bc η [ta,tb] args)(hg:GA H.get n)
 (la:X.Gz a)(lb:X.Gz b)(kX:X.dA H.get n ta a)(lO:X.dA H.get n tb b):
 Calls prog 3 args.toArray W λe w'=>e=.returned (.bool true)/\∃η' H' n',Trans (WW ty) η H n W η' H' n' w':=by
 have hw:X.τ CT (.f 3 [] []) [ta,tb] H.get n (λv _ _=>v=.b true):=X.w3 cdT la lb (G:=GA) (λg e=>g.ext e) (λg hq=>aon g hq) hg (hg .h _ F3) kX lO (λ_ _=>rfl);have:=aj7 aoi (U7 aoj) cdT.f3 hw jI hG hH;intro cs;obtain⟨e,w',fr,⟨y,v,η',H',n',he,hv,hr,ht⟩,h2⟩:=this cs;subst hv;cases hr;exact⟨e,w',fr,⟨he,η',H',n',ht⟩,h2⟩
end Go.Proofs.YtapmaobjhilnfaaGreatDoor
end
