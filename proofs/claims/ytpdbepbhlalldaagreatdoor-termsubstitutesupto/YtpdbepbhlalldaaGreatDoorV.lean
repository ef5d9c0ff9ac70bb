/- A part of the proof. -/
import Derived.Test.YtpdbepbhlalldaaGreatDoorRows
import Derived.Test.YtpdbepbhlalldaaGreatDoorQ
import Derived.Test.YtpdbepbhlalldaaGreatDoorJ
set_option linter.all false
section
set_option maxRecDepth 1000000
namespace Go.Proofs.YtpdbepbhlalldaaGreatDoor
open Go Go.Ev Go.Proofs.Tryz
section
def amo:FB prog 23 87 ({ name:= "Op",type:=3,offset:=0,embedded:=false,tag:= "",pkgPath:= "",byteOffset:=0}) ({ name:= "Sort",type:=9,offset:=1,embedded:=false,tag:= "",pkgPath:= "",byteOffset:=8}) ({ name:= "Name",type:=9,offset:=2,embedded:=false,tag:= "",pkgPath:= "",byteOffset:=24}) ({ name:= "Vars",type:=28,offset:=3,embedded:=false,tag:= "",pkgPath:= "",byteOffset:=40}) ({ name:= "Kids",type:=85,offset:=4,embedded:=false,tag:= "",pkgPath:= "",byteOffset:=64}) 64 ({ name:= "Name",type:=9,offset:=0,embedded:=false,tag:= "",pkgPath:= "",byteOffset:=0}) ({ name:= "Sort",type:=9,offset:=1,embedded:=false,tag:= "",pkgPath:= "",byteOffset:=16}) 3 where
 ht:=underlying23
 he:=underlying87
 ce:=by kernel_rfl
 o0:=rfl
 o1:=rfl
 o2:=rfl
 o3:=rfl
 o4:=rfl
 c0:=by kernel_rfl
 c1:=by kernel_rfl
 c2:=by kernel_rfl
 c3:=by kernel_rfl
 c4:=by kernel_rfl
 u0:=underlying3
 u1:=underlying9
 u2:=underlying9
 u3:=underlying28
 u4:=underlying85
 ui:=underlying3
 ci:=by kernel_rfl
 up:=underlying64
 cp:=by kernel_rfl
 po0:=rfl
 po1:=rfl
 pc0:=by kernel_rfl
 pc1:=by kernel_rfl
 pu0:=underlying9
 pu1:=underlying9
section
variable {A:Type}
def amp(d:DataW A):1<=Rows.uptoBulk d:=by
 cases d with
 | lit l=>cases l<;>simp[Rows.uptoBulk]
 | _=>simp[Rows.uptoBulk]
def FG:∀es:List (DataW A),es.length<=Rows.uptoBulkAll es:=by
 intro es
 induction es with
 | nil=>simp[Rows.uptoBulkAll]
 | cons d r ih=>have:=amp d;simp only[Rows.uptoBulkAll,dy];omega
def Ly:∀{es:List (DataW A)} {d:DataW A},d∈es->Rows.uptoBulk d<=Rows.uptoBulkAll es:=by
 intro es
 induction es with
 | nil=>intro d h;cases h
 | cons e r ih=>
  intro d h;simp only[Rows.uptoBulkAll];rcases eO.1 h with rfl | h
  ·omega
  ·have:=ih h;omega
def amq{d:DataW A}{x:X.Nd}{B:Nat}(h:xG d x)(hb:Rows.uptoBulk d<=B):x.kids.length<=B/\x.name.length<=B/\x.sort.length<=B/\x.vars.length<=B/\∀v∈x.vars,v.1.length<=B/\v.2.length<=B:=by
 obtain⟨dv,c,rfl,hv,b⟩:=h;simp only[Rows.uptoBulk,Rows.uptoBulkAll]at hb;have h1:x.kids.length<=B:=by
  rcases b with ⟨_,h⟩ | ⟨es,sp,rfl,h⟩
  ·omega
  ·simp only[Rows.uptoBulk]at hb;have:=FG es;omega
 refine⟨h1,by omega,by omega,?_,?_⟩
 ·rcases hv with ⟨_,h⟩ | ⟨sp,rfl⟩
  ·rw[h];simp
  ·simp only[Rows.uptoBulk]at hb;have:=FG (x.vars.map λp=>(DataW.agg [.lit (.string p.1),.lit (.string p.2)]:DataW A));rw[kJ]at this;omega
 ·intro v a;rcases hv with ⟨_,h⟩ | ⟨sp,rfl⟩
  ·rw[h]at a;cases a
  ·simp only[Rows.uptoBulk]at hb;have:=Ly (A:=A) (List.mem_map_of_mem (f:=λp=>(DataW.agg [.lit (.string p.1),.lit (.string p.2)]:DataW A)) a);simp only[Rows.uptoBulk,Rows.uptoBulkAll]at this;omega
def Vv{d:DataW A}{ts:List X.Nd}(h:LD xG d ts)(hb:Rows.uptoBulk d<=1048576):X.zF ts:=by
 rcases h with ⟨_,rfl⟩ | ⟨es,sp,rfl,hl,a⟩
 ·exact⟨by simp,λi hi=>by simp at hi,λi hi=>by simp at hi,λi hi=>by simp at hi,λi hi=>by simp at hi⟩
 ·simp only[Rows.uptoBulk]at hb;have hlen:=FG es;have each:∀i (hi:i<ts.length),ts[i].kids.length<=1048576/\ts[i].name.length<=1048576/\ts[i].sort.length<=1048576/\ts[i].vars.length<=1048576/\∀v∈ts[i].vars,v.1.length<=1048576/\v.2.length<=1048576:=λi hi=>
   amq (a i hi (by omega)) (by have:=Ly (bK (l:=es) (n:=i) (by omega));omega)
  refine⟨by omega,λi hi=>?_,λi hi=>⟨?_,?_⟩,λi hi=>?_,λi hi v hv=>⟨?_,?_⟩⟩
  ·have:=(each i hi).1;omega
  ·have:=(each i hi).2.1;omega
  ·have:=(each i hi).2.2.1;omega
  ·have:=(each i hi).2.2.2.1;omega
  ·have:=((each i hi).2.2.2.2 v hv).1;omega
  ·have:=((each i hi).2.2.2.2 v hv).2;omega
def amr{α:Type}{D:DataW A->α->Prop}{d:DataW A}{l:List α}{B:Nat}(h:LD D d l)(hb:Rows.uptoBulk d<=B):∀x∈l,∃e,D e x/\Rows.uptoBulk e<=B:=by
 intro x a;rcases h with ⟨_,rfl⟩ | ⟨es,sp,rfl,hl,b⟩
 ·cases a
 ·obtain⟨i,hi,rfl⟩:=iX a;simp only[Rows.uptoBulk]at hb;have:=Ly (bK (l:=es) (n:=i) (by omega));exact⟨_,b i hi (by omega),by omega⟩
def Vw{d:DataW A}{l:List X.Bi}(h:LD (MZ (LD xG)) d l)(hb:Rows.uptoBulk d<=1048576):l.length<10000000/\∀b∈l,X.zF b.2:=by
 refine⟨?_,λx a=>?_⟩
 ·rcases h with ⟨_,rfl⟩ | ⟨es,sp,rfl,hl,c⟩
  ·simp
  ·simp only[Rows.uptoBulk]at hb;have:=FG es;omega
 ·obtain⟨e,⟨f,rfl,h2⟩,b1⟩:=amr h hb x a;simp only[Rows.uptoBulk,Rows.uptoBulkAll]at b1;exact Vv h2 (by omega)
def rdT{enc:TypeId×Value->A}{W:World}:Gy enc prog W true ty 23 X.aZ (LD xG):=λs _ _ _ hb a b _ _ _ h=>alE amo s hb a b h
def amt{enc:TypeId×Value->A}{W:World}:Gy enc prog W true ty 24 X.dZ (LD (MZ (LD xG))):=
 alO underlying24 (by kernel_rfl) underlying38 rfl rfl (by kernel_rfl) (by kernel_rfl) underlying9 rdT
end
end
def gn0:prog.globalNamed "entail/term.connectives" =some 0:=by kernel_rfl
def gn1:prog.globalNamed "entail/term.reserved" =some 1:=by kernel_rfl
def gn2:prog.globalNamed "entail/term.shapes" =some 2:=by kernel_rfl
def gn4:prog.globalNamed "internal/strconv.uint64pow10" =some 4:=by kernel_rfl
def gn5:prog.globalNamed "math/bits.deBruijn32tab" =some 5:=by kernel_rfl
def gn6:prog.globalNamed "math/bits.deBruijn64tab" =some 6:=by kernel_rfl
def gt0:(prog.globals[0]?).map (·.type)=some 158:=by kernel_rfl
def WA:(prog.globals[1]?).map (·.type)=some 213:=by kernel_rfl
def Kv:(prog.globals[2]?).map (·.type)=some 276:=by kernel_rfl
def gt4:(prog.globals[4]?).map (·.type)=some 384:=by kernel_rfl
def gt5:(prog.globals[5]?).map (·.type)=some 403:=by kernel_rfl
def gt6:(prog.globals[6]?).map (·.type)=some 404:=by kernel_rfl
def oa{A:Type}(enc:TypeId×Value->A)(held:Bool)(W:World)(g t:Nat)(d:DataW A):Prop:=
 ∃cs e fr fuel p,W.heap[g]?=some (.cells cs e fr)/\DataW.trod enc prog W 0 (λ_=>true) held fuel t cs.toList=some (d,p)
def yQ{A:Type}{enc:TypeId×Value->A}{held:Bool}{W:World}{name:String}{g t g' t':Nat}{cs:Array Value}{fuel:Nat}{d:DataW A}{p:List MemPlace}(a:prog.globalNamed name=some g)(ht:(prog.globals[g]?).map (·.type)=some t)
 (h1:prog.globalNamed name=some g')(h2:(prog.globals[g']?).map (·.type)=some t')(h3:W.var? prog name=some cs)(h4:DataW.trod enc prog W 0 (λ_=>true) held fuel t' cs.toList=some (d,p)):oa enc held W g t d:=by
 rw[a]at h1;injection h1 with h1;subst h1;rw[ht]at h2;injection h2 with h2;subst h2;unfold World.var? at h3;rw[a]at h3;simp only[xQ]at h3;split at h3
 ·rename_i c e fr b;injection h3 with h3;subst h3;exact⟨_,_,_,fuel,p,b,h4⟩
 ·cases h3
def amu{W:World}(h:laidMetH prog Rows.termSubstitutesUptoRow.laid W):
 oa (λ_=>()) false W 5 403 Rows.laid_math_bits_deBruijn32tab/\oa (λ_=>()) false W 6 404 Rows.laid_math_bits_deBruijn64tab/\oa (λ_=>()) false W 4 384 Rows.laid_internal_strconv_uint64pow10/\oa (λ_=>()) false W 1 213 Rows.laid_entail_term_reserved/\oa (λ_=>()) false W 2 276 Rows.laid_entail_term_shapes/\∃d,(Rows.laid_entail_term_connectives (H:=Unit)).funcsIn?=some d/\oa (funcToken prog) true W 0 158 d.funcsOut:=by
 have e1:(Rows.termSubstitutesUptoRow.laid.filter λx=>x.2.handleName?.isSome)=[("entail/term.connectives",Rows.laid_entail_term_connectives)]:=by kernel_rfl
 have e2:(Rows.termSubstitutesUptoRow.laid.filter λx=>x.2.handleName?.isNone)=[("math/bits.deBruijn32tab",Rows.laid_math_bits_deBruijn32tab),("math/bits.deBruijn64tab",Rows.laid_math_bits_deBruijn64tab),("internal/strconv.uint64pow10",Rows.laid_internal_strconv_uint64pow10),("entail/term.reserved",Rows.laid_entail_term_reserved),("entail/term.shapes",Rows.laid_entail_term_shapes)]:=by kernel_rfl
 unfold laidMetH at h;rw[e1,e2]at h;obtain⟨⟨ps,a,_⟩,c⟩:=h;obtain⟨_,_,_,_,_,_,e,f,g,i,a,_⟩:=a;obtain⟨_,_,_,_,_,_,b1,b2,b3,b4,a,_⟩:=a;obtain⟨_,_,_,_,_,_,c1,c2,c3,c4,a,_⟩:=a;obtain⟨_,_,_,_,_,_,j,k,l,m,a,_⟩:=a;obtain⟨_,_,_,_,_,_,f1,f2,f3,f4,a,_⟩:=a;refine⟨yQ gn5 gt5 e f g i,yQ gn6 gt6 b1 b2 b3 b4,yQ gn4 gt4 c1 c2 c3 c4,yQ gn1 WA j k l m,yQ gn2 Kv f1 f2 f3 f4,?_⟩;have:=c _ (iZ.2 rfl);obtain⟨d,b⟩:∃d,(Rows.laid_entail_term_connectives (H:=Unit)).funcsIn?=some d:=⟨_,rfl⟩;simp only[b]at this;obtain⟨_,_,_,_,_,g1,n,o,p⟩:=this;exact⟨d,b,yQ gn0 gt0 g1 n o p⟩
section
noncomputable def rowAt(k:K):List V:=match gU.get k with | some (.r l)=>l | _=>[]
def Vx{A:Type}:DataW A->List (DataW A) | .agg ds=>ds | _=>[]
def yR{A:Type}{enc:TypeId×Value->A}{held:Bool}{W:World}{η:Env}{g t:Nat}{d:DataW A}(v:oa enc held W g t d){dv:DataW A->List V}{m e sz:Nat}{l:List V}(b:0<sz)(ht:prog.underlying t=some (.array m e))(c:prog.cellsOf e=sz)(f:prog.cellsOf t=m*sz)
 (he:FD enc prog W (λ_=>true) held η dv e sz)(h:d=.agg (Vx d))(hl:(List.range m).map (λq=>(l.drop (q*sz)).take sz)=(List.range m).map (λq=>dv ((Vx d).getD q .nil)))(j:l.length=m*sz)(room:Nat):
 g<W.heap.size/\fR (WW ty) η (.r l) ⟨g,0,room⟩ W.heap[g]?:=by
 obtain⟨cs,k,fr,fuel,p,a,n⟩:=v;refine⟨(mB.1 a).1,cs,k,fr,a,λi v hi=>?_⟩;obtain⟨y,h1,h2⟩:=alH b ht c f he n h (λq o=>by have:=congrArg (λL=>L[q]?) hl;simp only[List.getElem?_map,List.getElem?_range o,ou,lK]at this;exact this) j i v hi
 exact⟨y,by rw[eW];rw[lJ]at h1;exact h1,h2⟩
section
variable {W:World}{η:Env}
def amv(v:oa (λ_=>()) false W 5 403 Rows.laid_math_bits_deBruijn32tab)(room:Nat):5<W.heap.size/\fR (WW ty) η (.r (rowAt (bL 5))) ⟨5,0,room⟩ W.heap[5]?:=
 yR v (by decide) underlying403 (by kernel_rfl) (by kernel_rfl) (FE (dv:=La) (FC underlying5 λ_=>rfl)) U (by kernel_rfl) (by kernel_rfl) room
def amw(v:oa (λ_=>()) false W 6 404 Rows.laid_math_bits_deBruijn64tab)(room:Nat):6<W.heap.size/\fR (WW ty) η (.r (rowAt (bL 6))) ⟨6,0,room⟩ W.heap[6]?:=
 yR v (by decide) underlying404 (by kernel_rfl) (by kernel_rfl) (FE (dv:=La) (FC underlying5 λ_=>rfl)) U (by kernel_rfl) (by kernel_rfl) room
def amx(v:oa (λ_=>()) false W 4 384 Rows.laid_internal_strconv_uint64pow10)(room:Nat):4<W.heap.size/\fR (WW ty) η (.r (rowAt (bL 4))) ⟨4,0,room⟩ W.heap[4]?:=
 yR v (by decide) underlying384 (by kernel_rfl) (by kernel_rfl) (FE (dv:=La) (FC underlying349 λ_=>rfl)) U (by kernel_rfl) (by kernel_rfl) room
def amy(v:oa (λ_=>()) false W 1 213 Rows.laid_entail_term_reserved)(room:Nat):1<W.heap.size/\fR (WW ty) η (.r (rowAt (bL 1))) ⟨1,0,room⟩ W.heap[1]?:=
 yR v (by decide) underlying213 (by kernel_rfl) (by kernel_rfl) (FE (dv:=La) (xl underlying9 λ_=>rfl)) U (by kernel_rfl) (by kernel_rfl) room
def amz(v:oa (λ_=>()) false W 2 276 Rows.laid_entail_term_shapes)(room:Nat):2<W.heap.size/\fR (WW ty) η (.r (rowAt (bL 2))) ⟨2,0,room⟩ W.heap[2]?:=
 yR v (by decide) underlying276 (by kernel_rfl) (by kernel_rfl) (TX (dv:=La) underlying275 rfl rfl rfl rfl (by kernel_rfl) (by kernel_rfl) (by kernel_rfl) (by kernel_rfl) (xl underlying9 λ_=>rfl) (xl underlying9 λ_=>rfl) (xl underlying9 λ_=>rfl) (xl underlying9 λ_=>rfl)) U (by kernel_rfl) (by kernel_rfl) room
end
end
def bytes_inj{a b:String}(h:a.toUTF8.data.toList=b.toUTF8.data.toList):a=b:=by have e:a.toUTF8=b.toUTF8:=ByteArray.ext (iY h);exact String.toByteArray_inj.1 e
def yS:List (String×Nat):=[("entail/term.allBool",382),("entail/term.connectives$1",383),("entail/term.connectives$2",384),("entail/term.twoNumbers",385),("entail/term.connectives$3",386),("entail/term.connectives$4",387)]
def amA:∀p∈yS,prog.funcNamed p.1=some p.2:=by intro p hp;simp only[yS,eO,tX,or_false]at hp;rcases hp with rfl | rfl | rfl | rfl | rfl | rfl<;>kernel_rfl
def yT(tok:List UInt8):List (String×Nat)->Option Nat
 | []=>none
 | (s,g)::r=>if s.toUTF8.data.toList==tok then some g else yT tok r
def amB{tok:List UInt8}{g:Nat}:∀{l:List (String×Nat)},yT tok l=some g->∃s,(s,g)∈l/\s.toUTF8.data.toList=tok:=by
 intro l
 induction l with
 | nil=>intro h;cases h
 | cons p r ih=>
  intro h;obtain⟨s,k⟩:=p;simp only[yT]at h;split at h
  ·rename_i he;injection h with h;subst h;exact⟨s,by simp,by simpa using he⟩
  ·obtain⟨a,h1,h2⟩:=ih h;exact⟨a,by simp[h1],h2⟩
def dvF:DataW (List UInt8)->V
 | .lit (.int k n)=>.i k n
 | .lit (.string bs)=>X.st bs
 | .nil=>.nf
 | .held tok=>(match yT tok yS with | some g=>.f g [] [] | none=>.q)
 | _=>.q
def amD{W:World}{η:Env}:uU (funcToken prog) prog W (λ_=>true) true η dvF 155:=by
 intro fuel y x a;cases fuel with
 | zero=>simp[DataW.trod]at a
 | succ f=>
  unfold DataW.trod at a;rw[underlying155]at a;cases y<;>simp at a
  case nilFunc=>rw[←a];exact .nf
  case func fn first captured=>
   rw[←a];show aq η (match yT (funcToken prog (155,.func fn first captured)) yS with | some g=>.f g [] [] | none=>.q) _
   cases hf:yT (funcToken prog (155,.func fn first captured)) yS with
   | none=>exact .q _
   | some g=>
    obtain⟨s,hm,hs⟩:=amB hf;have d:=amA _ hm;have b:s.toUTF8.data.toList≠[]:=by simp only[yS,eO,tX,or_false,Prod.mk.injEq]at hm;rcases hm with ⟨rfl,_⟩ | ⟨rfl,_⟩ | ⟨rfl,_⟩ | ⟨rfl,_⟩ | ⟨rfl,_⟩ | ⟨rfl,_⟩<;>decide
    cases fn with
    | func e=>
     simp only[funcToken]at hs;split at hs
     ·rename_i c;split at hs
      ·rename_i fn i;split at hs
       ·rename_i kT;have h:=bytes_inj hs;subst h;have:prog.funcNamed fn.name=some e:=by simpa using kT
        rw[d]at this;injection this with this;subst this;simp only[aK,Array.isEmpty_iff]at c;obtain⟨rfl,rfl⟩:=c;exact .f _ _ _ _ _ .nil .nil
       ·exact absurd hs b
      ·exact absurd hs b
     ·exact absurd hs b
    | _=>exact absurd hs b
def amE{W:World}{η:Env}{d:DataW Unit}(a:(Rows.laid_entail_term_connectives (H:=Unit)).funcsIn?=some d)(v:oa (funcToken prog) true W 0 158 d.funcsOut)(room:Nat):0<W.heap.size/\fR (WW ty) η (.r (rowAt (bL 0))) ⟨0,0,room⟩ W.heap[0]?:=by injection (a:some _=some d) with a;subst a;exact yR v (by decide) underlying158 (by kernel_rfl) (by kernel_rfl) (TX (dv:=dvF) underlying157 rfl rfl rfl rfl (by kernel_rfl) (by kernel_rfl) (by kernel_rfl) (by kernel_rfl) (xl underlying9 λ_=>rfl) (FC underlying3 λ_=>rfl) (xl underlying9 λ_=>rfl) amD) U (by kernel_rfl) (by kernel_rfl) room
def yU{α:Type}:(K->K)->Tr α->List K
 | _,.e=>[]
 | f,.n v l r=>(match v with | none=>[] | some _=>[f .h])++(yU (λp=>f (.o p)) l++yU (λp=>f (.i p)) r)
def amF{α:Type}:∀{t:Tr α} {f:K->K} {k:K} {o:α},t.get k=some o->f k∈yU f t:=by
 intro t
 induction t with
 | e=>intro f k o h;rw[Tr.gf]at h;cases h
 | n v l r a b=>
  intro f k o h;cases k with
  | h=>simp only[Tr.get]at h;subst h;simp[yU]
  | o k=>exact zU _ (List.mem_append_left _ (a (f:=λp=>f (.o p)) h))
  | i k=>exact zU _ (zU _ (b (f:=λp=>f (.i p)) h))
def amG{k:K}{o:O}(h:gU.get k=some o)(a:∃l,o=.r l):o=.r (rowAt k):=by obtain⟨l,rfl⟩:=a;unfold rowAt;rw[h]
def Cu:Env:=λk=>if k.num<=7 then some ⟨k.num - 1,0,0⟩ else none
def tF{q:Nat}(h:q<7):Cu (bL q)=some ⟨q,0,0⟩:=by unfold Cu;rw[vV,ao (by omega),Nat.add_sub_cancel]
def amH:bD Cu ty.g:=λq a=>⟨⟨q,0,0⟩,tF a,rfl,rfl⟩
def start{W:World}(h:laidMetH prog Rows.termSubstitutesUptoRow.laid W):St ty W Cu gU (bL 7)/\GA gU.get (bL 7):=by
 obtain⟨i,j,m,v1,n,d,p,v0⟩:=amu h;have q:yw (bL 7) gU=true:=by kernel_rfl
 have b:∀k o,gU.get k=some o->∃l,o=.r l:=λk o a=>by obtain⟨l,h1,_⟩:=EC q a;exact⟨l,h1⟩
 have c:∀k o,gU.get k=some o->k=bL 0\/k=bL 1\/k=bL 2\/k=bL 4\/k=bL 5\/k=bL 6:=λk o a=>by
  have h1:=amF (f:=id) a;have h2:∀x∈yU id gU,x=bL 0\/x=bL 1\/x=bL 2\/x=bL 4\/x=bL 5\/x=bL 6:=by
   have e:yU id gU=[bL 0,bL 1,bL 5,bL 2,bL 4,bL 6]:=by kernel_rfl
   rw[e];intro x g;simp only[eO,tX,or_false]at g;rcases g with h | h | h | h | h | h<;>simp[h]
  exact h2 _ h1
 refine⟨⟨⟨λk o a=>?_,λk k' o o' L L' t a hm=>?_,λk a=>?_⟩,b⟩,λk o a=>⟨?_,a⟩⟩
 ·have s:=amG a (b k o a);subst s;rcases c k _ a with rfl | rfl | rfl | rfl | rfl | rfl
  ·exact⟨_,tF (by omega),amE p v0 0⟩
  ·exact⟨_,tF (by omega),amy v1 0⟩
  ·exact⟨_,tF (by omega),amz n 0⟩
  ·exact⟨_,tF (by omega),amx m 0⟩
  ·exact⟨_,tF (by omega),amv i 0⟩
  ·exact⟨_,tF (by omega),amw j 0⟩
 ·obtain⟨l,rfl⟩:=b k o a;cases hm
 ·unfold Cu;rw[vV]at a;rw[Θ (by omega)]
 ·rcases c k o a with rfl | rfl | rfl | rfl | rfl | rfl<;>(rw[vV,vV];omega)
end Go.Proofs.YtpdbepbhlalldaaGreatDoor
end
