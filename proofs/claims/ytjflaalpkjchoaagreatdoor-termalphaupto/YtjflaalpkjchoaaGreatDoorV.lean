/- A part of the proof. -/
import Derived.Test.YtjflaalpkjchoaaGreatDoorRows
import Derived.Test.YtjflaalpkjchoaaGreatDoorQ
import Derived.Test.YtjflaalpkjchoaaGreatDoorJ
set_option linter.all false
section
set_option maxRecDepth 1000000
namespace Go.Proofs.YtjflaalpkjchoaaGreatDoor
open Go Go.Ev Go.Proofs.Tryz
section
def aoV:GK prog 23 35 ({ name:= "Op",type:=3,offset:=0,embedded:=false,tag:= "",pkgPath:= "",byteOffset:=0}) ({ name:= "Sort",type:=9,offset:=1,embedded:=false,tag:= "",pkgPath:= "",byteOffset:=8}) ({ name:= "Name",type:=9,offset:=2,embedded:=false,tag:= "",pkgPath:= "",byteOffset:=24}) ({ name:= "Vars",type:=32,offset:=3,embedded:=false,tag:= "",pkgPath:= "",byteOffset:=40}) ({ name:= "Kids",type:=33,offset:=4,embedded:=false,tag:= "",pkgPath:= "",byteOffset:=64}) 37 ({ name:= "Name",type:=9,offset:=0,embedded:=false,tag:= "",pkgPath:= "",byteOffset:=0}) ({ name:= "Sort",type:=9,offset:=1,embedded:=false,tag:= "",pkgPath:= "",byteOffset:=16}) 3 where
 ht:=underlying23
 he:=underlying35
 ce:=by kernel_rfl
 o0:=rfl
 o1:=rfl
 o2:=rfl
 o3:=rfl
 o4:=rfl
 c0:=by kernel_rfl
 c1:=by kernel_rfl
 c2:=by kernel_rfl
 c3:=by kernel_rfl
 c4:=by kernel_rfl
 u0:=underlying3
 u1:=underlying9
 u2:=underlying9
 u3:=underlying32
 u4:=underlying33
 ui:=underlying3
 ci:=by kernel_rfl
 up:=underlying37
 cp:=by kernel_rfl
 po0:=rfl
 po1:=rfl
 pc0:=by kernel_rfl
 pc1:=by kernel_rfl
 pu0:=underlying9
 pu1:=underlying9
section
variable {A:Type}
def aoW(d:DataW A):1<=Rows.uptoBulk d:=by
 cases d with
 | lit l=>cases l<;>simp[Rows.uptoBulk]
 | _=>simp[Rows.uptoBulk]
def GP:∀es:List (DataW A),es.length<=Rows.uptoBulkAll es:=by
 intro es
 induction es with
 | nil=>simp[Rows.uptoBulkAll]
 | cons d r ih=>have:=aoW d;simp only[Rows.uptoBulkAll,eh];omega
def MQ:∀{es:List (DataW A)} {d:DataW A},d∈es->Rows.uptoBulk d<=Rows.uptoBulkAll es:=by
 intro es
 induction es with
 | nil=>intro d h;cases h
 | cons e r ih=>
  intro d h;simp only[Rows.uptoBulkAll];rcases cD.1 h with rfl | h
  ·omega
  ·have:=ih h;omega
def aoX{d:DataW A}{x:X.Nd}{B:Nat}(h:ze d x)(hb:Rows.uptoBulk d<=B):x.kids.length<=B/\x.name.length<=B/\x.sort.length<=B/\x.vars.length<=B/\∀v∈x.vars,v.1.length<=B/\v.2.length<=B:=by
 obtain⟨dv,c,rfl,hv,b⟩:=h;simp only[Rows.uptoBulk,Rows.uptoBulkAll]at hb;have h1:x.kids.length<=B:=by
  rcases b with ⟨_,h⟩ | ⟨es,sp,rfl,h⟩
  ·omega
  ·simp only[Rows.uptoBulk]at hb;have:=GP es;omega
 refine⟨h1,by omega,by omega,?_,?_⟩
 ·rcases hv with ⟨_,h⟩ | ⟨sp,rfl⟩
  ·rw[h];simp
  ·simp only[Rows.uptoBulk]at hb;have:=GP (x.vars.map λp=>(DataW.agg [.lit (.string p.1),.lit (.string p.2)]:DataW A));rw[ji]at this;omega
 ·intro v a;rcases hv with ⟨_,h⟩ | ⟨sp,rfl⟩
  ·rw[h]at a;cases a
  ·simp only[Rows.uptoBulk]at hb;have:=MQ (A:=A) (List.mem_map_of_mem (f:=λp=>(DataW.agg [.lit (.string p.1),.lit (.string p.2)]:DataW A)) a);simp only[Rows.uptoBulk,Rows.uptoBulkAll]at this;omega
def XN{d:DataW A}{ts:List X.Nd}(h:LD ze d ts)(hb:Rows.uptoBulk d<=1048576):X.A6 ts:=by
 rcases h with ⟨_,rfl⟩ | ⟨es,sp,rfl,hl,a⟩
 ·exact⟨by simp,λi hi=>by simp at hi,λi hi=>by simp at hi,λi hi=>by simp at hi,λi hi=>by simp at hi⟩
 ·simp only[Rows.uptoBulk]at hb;have hlen:=GP es;have each:∀i (hi:i<ts.length),ts[i].kids.length<=1048576/\ts[i].name.length<=1048576/\ts[i].sort.length<=1048576/\ts[i].vars.length<=1048576/\∀v∈ts[i].vars,v.1.length<=1048576/\v.2.length<=1048576:=λi hi=>
   aoX (a i hi (by omega)) (by have:=MQ (bL (l:=es) (n:=i) (by omega));omega)
  refine⟨by omega,λi hi=>?_,λi hi=>⟨?_,?_⟩,λi hi=>?_,λi hi v hv=>⟨?_,?_⟩⟩
  ·have:=(each i hi).1;omega
  ·have:=(each i hi).2.1;omega
  ·have:=(each i hi).2.2.1;omega
  ·have:=(each i hi).2.2.2.1;omega
  ·have:=((each i hi).2.2.2.2 v hv).1;omega
  ·have:=((each i hi).2.2.2.2 v hv).2;omega
def aoY{α:Type}{D:DataW A->α->Prop}{d:DataW A}{l:List α}{B:Nat}(h:LD D d l)(hb:Rows.uptoBulk d<=B):∀x∈l,∃e,D e x/\Rows.uptoBulk e<=B:=by
 intro x a;rcases h with ⟨_,rfl⟩ | ⟨es,sp,rfl,hl,b⟩
 ·cases a
 ·obtain⟨i,hi,rfl⟩:=fD a;simp only[Rows.uptoBulk]at hb;have:=MQ (bL (l:=es) (n:=i) (by omega));exact⟨_,b i hi (by omega),by omega⟩
def XO{d:DataW A}{l:List X.Bi}(h:LD (OD (LD ze)) d l)(hb:Rows.uptoBulk d<=1048576):l.length<10000000/\∀b∈l,X.A6 b.2:=by
 refine⟨?_,λx a=>?_⟩
 ·rcases h with ⟨_,rfl⟩ | ⟨es,sp,rfl,hl,c⟩
  ·simp
  ·simp only[Rows.uptoBulk]at hb;have:=GP es;omega
 ·obtain⟨e,⟨f,rfl,h2⟩,b1⟩:=aoY h hb x a;simp only[Rows.uptoBulk,Rows.uptoBulkAll]at b1;exact XN h2 (by omega)
def rdT{enc:TypeId×Value->A}{W:World}:Hy enc prog W true ty 23 X.bK (LD ze):=λs _ _ _ hb a b _ _ _ h=>aob aoV s hb a b h
def ao0{enc:TypeId×Value->A}{W:World}:Hy enc prog W true ty 24 X.fL (LD (OD (LD ze))):=
 aol underlying24 (by kernel_rfl) underlying39 rfl rfl (by kernel_rfl) (by kernel_rfl) underlying9 rdT
end
end
def gn0:prog.globalNamed "entail/term.connectives" =some 0:=by kernel_rfl
def gn1:prog.globalNamed "entail/term.reserved" =some 1:=by kernel_rfl
def gn2:prog.globalNamed "entail/term.shapes" =some 2:=by kernel_rfl
def gn4:prog.globalNamed "internal/strconv.uint64pow10" =some 4:=by kernel_rfl
def gn5:prog.globalNamed "math/bits.deBruijn32tab" =some 5:=by kernel_rfl
def gn6:prog.globalNamed "math/bits.deBruijn64tab" =some 6:=by kernel_rfl
def gt0:(prog.globals[0]?).map (·.type)=some 99:=by kernel_rfl
def YZ:(prog.globals[1]?).map (·.type)=some 206:=by kernel_rfl
def Lc:(prog.globals[2]?).map (·.type)=some 270:=by kernel_rfl
def gt4:(prog.globals[4]?).map (·.type)=some 377:=by kernel_rfl
def gt5:(prog.globals[5]?).map (·.type)=some 391:=by kernel_rfl
def gt6:(prog.globals[6]?).map (·.type)=some 392:=by kernel_rfl
def oI{A:Type}(enc:TypeId×Value->A)(held:Bool)(W:World)(g t:Nat)(d:DataW A):Prop:=
 ∃cs e fr fuel p,W.heap[g]?=some (.cells cs e fr)/\DataW.trod enc prog W 0 (λ_=>true) held fuel t cs.toList=some (d,p)
def Az{A:Type}{enc:TypeId×Value->A}{held:Bool}{W:World}{name:String}{g t g' t':Nat}{cs:Array Value}{fuel:Nat}{d:DataW A}{p:List MemPlace}(a:prog.globalNamed name=some g)(ht:(prog.globals[g]?).map (·.type)=some t)
 (h1:prog.globalNamed name=some g')(h2:(prog.globals[g']?).map (·.type)=some t')(h3:W.var? prog name=some cs)(h4:DataW.trod enc prog W 0 (λ_=>true) held fuel t' cs.toList=some (d,p)):oI enc held W g t d:=by
 rw[a]at h1;injection h1 with h1;subst h1;rw[ht]at h2;injection h2 with h2;subst h2;unfold World.var? at h3;rw[a]at h3;simp only[zt]at h3;split at h3
 ·rename_i c e fr b;injection h3 with h3;subst h3;exact⟨_,_,_,fuel,p,b,h4⟩
 ·cases h3
def ao1{W:World}(h:laidMetH prog Rows.termAlphaUptoRow.laid W):
 oI (λ_=>()) false W 5 391 Rows.laid_math_bits_deBruijn32tab/\oI (λ_=>()) false W 6 392 Rows.laid_math_bits_deBruijn64tab/\oI (λ_=>()) false W 4 377 Rows.laid_internal_strconv_uint64pow10/\oI (λ_=>()) false W 1 206 Rows.laid_entail_term_reserved/\oI (λ_=>()) false W 2 270 Rows.laid_entail_term_shapes/\∃d,(Rows.laid_entail_term_connectives (H:=Unit)).funcsIn?=some d/\oI (funcToken prog) true W 0 99 d.funcsOut:=by
 have e1:(Rows.termAlphaUptoRow.laid.filter λx=>x.2.handleName?.isSome)=[("entail/term.connectives",Rows.laid_entail_term_connectives)]:=by kernel_rfl
 have e2:(Rows.termAlphaUptoRow.laid.filter λx=>x.2.handleName?.isNone)=[("math/bits.deBruijn32tab",Rows.laid_math_bits_deBruijn32tab),("math/bits.deBruijn64tab",Rows.laid_math_bits_deBruijn64tab),("internal/strconv.uint64pow10",Rows.laid_internal_strconv_uint64pow10),("entail/term.reserved",Rows.laid_entail_term_reserved),("entail/term.shapes",Rows.laid_entail_term_shapes)]:=by kernel_rfl
 unfold laidMetH at h;rw[e1,e2]at h;obtain⟨⟨ps,a,_⟩,c⟩:=h;obtain⟨_,_,_,_,_,_,e,f,g,i,a,_⟩:=a;obtain⟨_,_,_,_,_,_,b1,b2,b3,b4,a,_⟩:=a;obtain⟨_,_,_,_,_,_,c1,c2,c3,c4,a,_⟩:=a;obtain⟨_,_,_,_,_,_,j,k,l,m,a,_⟩:=a;obtain⟨_,_,_,_,_,_,f1,f2,f3,f4,a,_⟩:=a;refine⟨Az gn5 gt5 e f g i,Az gn6 gt6 b1 b2 b3 b4,Az gn4 gt4 c1 c2 c3 c4,Az gn1 YZ j k l m,Az gn2 Lc f1 f2 f3 f4,?_⟩;have:=c _ (gF.2 rfl);obtain⟨d,b⟩:∃d,(Rows.laid_entail_term_connectives (H:=Unit)).funcsIn?=some d:=⟨_,rfl⟩;simp only[b]at this;obtain⟨_,_,_,_,_,g1,n,o,p⟩:=this;exact⟨d,b,Az gn0 gt0 g1 n o p⟩
section
noncomputable def rowAt(k:K):List V:=match iT.get k with | some (.r l)=>l | _=>[]
def XP{A:Type}:DataW A->List (DataW A) | .agg ds=>ds | _=>[]
def AA{A:Type}{enc:TypeId×Value->A}{held:Bool}{W:World}{η:Env}{g t:Nat}{d:DataW A}(v:oI enc held W g t d){dv:DataW A->List V}{m e sz:Nat}{l:List V}(b:0<sz)(ht:prog.underlying t=some (.array m e))(c:prog.cellsOf e=sz)(f:prog.cellsOf t=m*sz)
 (he:GM enc prog W (λ_=>true) held η dv e sz)(h:d=.agg (XP d))(hl:(List.range m).map (λq=>(l.drop (q*sz)).take sz)=(List.range m).map (λq=>dv ((XP d).getD q .nil)))(j:l.length=m*sz)(room:Nat):
 g<W.heap.size/\gN (WW ty) η (.r l) ⟨g,0,room⟩ W.heap[g]?:=by
 obtain⟨cs,el,fr,fuel,p,a,k⟩:=v;refine⟨(mU.1 a).1,cs,el,fr,a,λi v hi=>?_⟩;obtain⟨y,h1,h2⟩:=aoe b ht c f he k h (λq n=>by have:=congrArg (λL=>L[q]?) hl;simp only[List.getElem?_map,List.getElem?_range n,ox,kV]at this;exact this) j i v hi
 exact⟨y,by rw[eV];rw[mh]at h1;exact h1,h2⟩
section
variable {W:World}{η:Env}
def ao2(v:oI (λ_=>()) false W 5 391 Rows.laid_math_bits_deBruijn32tab)(room:Nat):5<W.heap.size/\gN (WW ty) η (.r (rowAt (bF 5))) ⟨5,0,room⟩ W.heap[5]?:=
 AA v (by decide) underlying391 (by kernel_rfl) (by kernel_rfl) (GN (dv:=Mv) (GL underlying5 λ_=>rfl)) U (by kernel_rfl) (by kernel_rfl) room
def ao3(v:oI (λ_=>()) false W 6 392 Rows.laid_math_bits_deBruijn64tab)(room:Nat):6<W.heap.size/\gN (WW ty) η (.r (rowAt (bF 6))) ⟨6,0,room⟩ W.heap[6]?:=
 AA v (by decide) underlying392 (by kernel_rfl) (by kernel_rfl) (GN (dv:=Mv) (GL underlying5 λ_=>rfl)) U (by kernel_rfl) (by kernel_rfl) room
def ao4(v:oI (λ_=>()) false W 4 377 Rows.laid_internal_strconv_uint64pow10)(room:Nat):4<W.heap.size/\gN (WW ty) η (.r (rowAt (bF 4))) ⟨4,0,room⟩ W.heap[4]?:=
 AA v (by decide) underlying377 (by kernel_rfl) (by kernel_rfl) (GN (dv:=Mv) (GL underlying348 λ_=>rfl)) U (by kernel_rfl) (by kernel_rfl) room
def ao5(v:oI (λ_=>()) false W 1 206 Rows.laid_entail_term_reserved)(room:Nat):1<W.heap.size/\gN (WW ty) η (.r (rowAt (bF 1))) ⟨1,0,room⟩ W.heap[1]?:=
 AA v (by decide) underlying206 (by kernel_rfl) (by kernel_rfl) (GN (dv:=Mv) (yH underlying9 λ_=>rfl)) U (by kernel_rfl) (by kernel_rfl) room
def ao6(v:oI (λ_=>()) false W 2 270 Rows.laid_entail_term_shapes)(room:Nat):2<W.heap.size/\gN (WW ty) η (.r (rowAt (bF 2))) ⟨2,0,room⟩ W.heap[2]?:=
 AA v (by decide) underlying270 (by kernel_rfl) (by kernel_rfl) (Wc (dv:=Mv) underlying269 rfl rfl rfl rfl (by kernel_rfl) (by kernel_rfl) (by kernel_rfl) (by kernel_rfl) (yH underlying9 λ_=>rfl) (yH underlying9 λ_=>rfl) (yH underlying9 λ_=>rfl) (yH underlying9 λ_=>rfl)) U (by kernel_rfl) (by kernel_rfl) room
end
end
def bytes_inj{a b:String}(h:a.toUTF8.data.toList=b.toUTF8.data.toList):a=b:=by have e:a.toUTF8=b.toUTF8:=ByteArray.ext (jB h);exact String.toByteArray_inj.1 e
def AB:List (String×Nat):=[("entail/term.allBool",351),("entail/term.connectives$1",352),("entail/term.connectives$2",353),("entail/term.twoNumbers",354),("entail/term.connectives$3",355),("entail/term.connectives$4",356)]
def ao7:∀p∈AB,prog.funcNamed p.1=some p.2:=by intro p hp;simp only[AB,cD,tO,or_false]at hp;rcases hp with rfl | rfl | rfl | rfl | rfl | rfl<;>kernel_rfl
def AD(tok:List UInt8):List (String×Nat)->Option Nat
 | []=>none
 | (s,g)::r=>if s.toUTF8.data.toList==tok then some g else AD tok r
def ao8{tok:List UInt8}{g:Nat}:∀{l:List (String×Nat)},AD tok l=some g->∃s,(s,g)∈l/\s.toUTF8.data.toList=tok:=by
 intro l
 induction l with
 | nil=>intro h;cases h
 | cons p r ih=>
  intro h;obtain⟨s,k⟩:=p;simp only[AD]at h;split at h
  ·rename_i he;injection h with h;subst h;exact⟨s,by simp,by simpa using he⟩
  ·obtain⟨s',h1,h2⟩:=ih h;exact⟨s',by simp[h1],h2⟩
def dvF:DataW (List UInt8)->V
 | .lit (.int k n)=>.i k n
 | .lit (.string bs)=>X.st bs
 | .nil=>.nf
 | .held tok=>(match AD tok AB with | some g=>.f g [] [] | none=>.q)
 | _=>.q
def apa{W:World}{η:Env}:wG (funcToken prog) prog W (λ_=>true) true η dvF 96:=by
 intro fuel y x a;cases fuel with
 | zero=>simp[DataW.trod]at a
 | succ f=>
  unfold DataW.trod at a;rw[underlying96]at a;cases y<;>simp at a
  case nilFunc=>rw[←a];exact .nf
  case func fn first captured=>
   rw[←a];show an η (match AD (funcToken prog (96,.func fn first captured)) AB with | some g=>.f g [] [] | none=>.q) _
   cases hf:AD (funcToken prog (96,.func fn first captured)) AB with
   | none=>exact .q _
   | some g=>
    obtain⟨s,hm,hs⟩:=ao8 hf;have d:=ao7 _ hm;have b:s.toUTF8.data.toList≠[]:=by simp only[AB,cD,tO,or_false,Prod.mk.injEq]at hm;rcases hm with ⟨rfl,_⟩ | ⟨rfl,_⟩ | ⟨rfl,_⟩ | ⟨rfl,_⟩ | ⟨rfl,_⟩ | ⟨rfl,_⟩<;>decide
    cases fn with
    | func e=>
     simp only[funcToken]at hs;split at hs
     ·rename_i c;split at hs
      ·rename_i fn i;split at hs
       ·rename_i iE;have h:=bytes_inj hs;subst h;have:prog.funcNamed fn.name=some e:=by simpa using iE
        rw[d]at this;injection this with this;subst this;simp only[aD,Array.isEmpty_iff]at c;obtain⟨rfl,rfl⟩:=c;exact .f _ _ _ _ _ .nil .nil
       ·exact absurd hs b
      ·exact absurd hs b
     ·exact absurd hs b
    | _=>exact absurd hs b
def apb{W:World}{η:Env}{d:DataW Unit}(a:(Rows.laid_entail_term_connectives (H:=Unit)).funcsIn?=some d)(v:oI (funcToken prog) true W 0 99 d.funcsOut)(room:Nat):0<W.heap.size/\gN (WW ty) η (.r (rowAt (bF 0))) ⟨0,0,room⟩ W.heap[0]?:=by injection (a:some _=some d) with a;subst a;exact AA v (by decide) underlying99 (by kernel_rfl) (by kernel_rfl) (Wc (dv:=dvF) underlying98 rfl rfl rfl rfl (by kernel_rfl) (by kernel_rfl) (by kernel_rfl) (by kernel_rfl) (yH underlying9 λ_=>rfl) (GL underlying3 λ_=>rfl) (yH underlying9 λ_=>rfl) apa) U (by kernel_rfl) (by kernel_rfl) room
def AH{α:Type}:(K->K)->Tr α->List K
 | _,.e=>[]
 | f,.n v l r=>(match v with | none=>[] | some _=>[f .h])++(AH (λp=>f (.o p)) l++AH (λp=>f (.i p)) r)
def apc{α:Type}:∀{t:Tr α} {f:K->K} {k:K} {o:α},t.get k=some o->f k∈AH f t:=by
 intro t
 induction t with
 | e=>intro f k o h;rw[Tr.gV]at h;cases h
 | n v l r a b=>
  intro f k o h;cases k with
  | h=>simp only[Tr.get]at h;subst h;simp[AH]
  | o k=>exact Bx _ (List.mem_append_left _ (a (f:=λp=>f (.o p)) h))
  | i k=>exact Bx _ (Bx _ (b (f:=λp=>f (.i p)) h))
def apd{k:K}{o:O}(h:iT.get k=some o)(a:∃l,o=.r l):o=.r (rowAt k):=by obtain⟨l,rfl⟩:=a;unfold rowAt;rw[h]
def DB:Env:=λk=>if k.num<=7 then some ⟨k.num - 1,0,0⟩ else none
def u9{q:Nat}(h:q<7):DB (bF q)=some ⟨q,0,0⟩:=by unfold DB;rw[xz,ab (by omega),Nat.add_sub_cancel]
def ape:bM DB ty.g:=λq a=>⟨⟨q,0,0⟩,u9 a,rfl,rfl⟩
def start{W:World}(h:laidMetH prog Rows.termAlphaUptoRow.laid W):St ty W DB iT (bF 7)/\GA iT.get (bF 7):=by
 obtain⟨v5,i,j,v1,m,d,n,v0⟩:=ao1 h;have p:Ae (bF 7) iT=true:=by kernel_rfl
 have b:∀k o,iT.get k=some o->∃l,o=.r l:=λk o a=>by obtain⟨l,h1,_⟩:=FK p a;exact⟨l,h1⟩
 have c:∀k o,iT.get k=some o->k=bF 0\/k=bF 1\/k=bF 2\/k=bF 4\/k=bF 5\/k=bF 6:=λk o a=>by
  have h1:=apc (f:=id) a;have h2:∀x∈AH id iT,x=bF 0\/x=bF 1\/x=bF 2\/x=bF 4\/x=bF 5\/x=bF 6:=by
   have e:AH id iT=[bF 0,bF 1,bF 5,bF 2,bF 4,bF 6]:=by kernel_rfl
   rw[e];intro x g;simp only[cD,tO,or_false]at g;rcases g with h | h | h | h | h | h<;>simp[h]
  exact h2 _ h1
 refine⟨⟨⟨λk o a=>?_,λk k' o o' L L' s a hm=>?_,λk a=>?_⟩,b⟩,λk o a=>⟨?_,a⟩⟩
 ·have q:=apd a (b k o a);subst q;rcases c k _ a with rfl | rfl | rfl | rfl | rfl | rfl
  ·exact⟨_,u9 (by omega),apb n v0 0⟩
  ·exact⟨_,u9 (by omega),ao5 v1 0⟩
  ·exact⟨_,u9 (by omega),ao6 m 0⟩
  ·exact⟨_,u9 (by omega),ao4 j 0⟩
  ·exact⟨_,u9 (by omega),ao2 v5 0⟩
  ·exact⟨_,u9 (by omega),ao3 i 0⟩
 ·obtain⟨l,rfl⟩:=b k o a;cases hm
 ·unfold DB;rw[xz]at a;rw[Γ (by omega)]
 ·rcases c k o a with rfl | rfl | rfl | rfl | rfl | rfl<;>(rw[xz,xz];omega)
end Go.Proofs.YtjflaalpkjchoaaGreatDoor
end
