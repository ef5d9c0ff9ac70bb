/- A part of the proof. -/
import Derived.Test.YtpdbepbhlalldaaGreatDoorRows
import Derived.Test.YtpdbepbhlalldaaGreatDoorQ
import Derived.Test.YtpdbepbhlalldaaGreatDoorJ
set_option linter.all false
section
set_option maxRecDepth 1000000
namespace Go.Proofs.YtpdbepbhlalldaaGreatDoor
open Go Go.Ev Go.Proofs.Tryz
section
theorem vE:I5 prog 23 87 ({ name:= "Op",type:=3,offset:=0,embedded:=false,tag:= "",pkgPath:= "",byteOffset:=0}) ({ name:= "Sort",type:=9,offset:=1,embedded:=false,tag:= "",pkgPath:= "",byteOffset:=8}) ({ name:= "Name",type:=9,offset:=2,embedded:=false,tag:= "",pkgPath:= "",byteOffset:=24}) ({ name:= "Vars",type:=28,offset:=3,embedded:=false,tag:= "",pkgPath:= "",byteOffset:=40}) ({ name:= "Kids",type:=85,offset:=4,embedded:=false,tag:= "",pkgPath:= "",byteOffset:=64}) 64 ({ name:= "Name",type:=9,offset:=0,embedded:=false,tag:= "",pkgPath:= "",byteOffset:=0}) ({ name:= "Sort",type:=9,offset:=1,embedded:=false,tag:= "",pkgPath:= "",byteOffset:=16}) 3 where
 ht:=underlying23
 he:=underlying87
 ce:=by kernel_rfl
 o0:=rfl
 o1:=rfl
 o2:=rfl
 o3:=rfl
 o4:=rfl
 c0:=by kernel_rfl
 c1:=by kernel_rfl
 c2:=by kernel_rfl
 c3:=by kernel_rfl
 c4:=by kernel_rfl
 u0:=underlying3
 u1:=underlying9
 u2:=underlying9
 u3:=underlying28
 u4:=underlying85
 ui:=underlying3
 ci:=by kernel_rfl
 up:=underlying64
 cp:=by kernel_rfl
 ZM:=rfl
 ZN:=rfl
 ZO:=by kernel_rfl
 ZP:=by kernel_rfl
 ZQ:=underlying9
 ZR:=underlying9
section
variable {A:Type}
theorem alV(d:DataW A):1<=Rows.uptoBulk d:=by
 cases d with
 | lit l=>cases l<;>simp[Rows.uptoBulk]
 | _=>simp[Rows.uptoBulk]
theorem Og:∀es:List (DataW A),es.length<=Rows.uptoBulkAll es:=by
 intro es
 induction es with
 | nil=>simp[Rows.uptoBulkAll]
 | cons d r ih=>have:=alV d;simp only[Rows.uptoBulkAll,fG];omega
theorem Jd:∀{es:List (DataW A)} {d:DataW A},d∈es->Rows.uptoBulk d<=Rows.uptoBulkAll es:=by
 intro es
 induction es with
 | nil=>intro d h;cases h
 | cons e r ih=>
  intro d h;simp only[Rows.uptoBulkAll];rcases fY.1 h with rfl | h
  ·omega
  ·have:=ih h;omega
theorem alW{d:DataW A}{x:X.Nd}{B:Nat}(h:Bf d x)(hb:Rows.uptoBulk d<=B):x.kids.length<=B/\x.name.length<=B/\x.sort.length<=B/\x.vars.length<=B/\∀v∈x.vars,v.1.length<=B/\v.2.length<=B:=by
 obtain⟨dv,dk,rfl,hv,hk⟩:=h;simp only[Rows.uptoBulk,Rows.uptoBulkAll]at hb;have h1:x.kids.length<=B:=by
  rcases hk with ⟨_,h⟩ | ⟨es,sp,rfl,h⟩
  ·omega
  ·simp only[Rows.uptoBulk]at hb;have:=Og es;omega
 refine⟨h1,by omega,by omega,?_,?_⟩
 ·rcases hv with ⟨_,h⟩ | ⟨sp,rfl⟩
  ·rw[h];simp
  ·simp only[Rows.uptoBulk]at hb;have:=Og (x.vars.map λp=>(DataW.agg [.lit (.string p.1),.lit (.string p.2)]:DataW A));rw[lC]at this;omega
 ·intro v ZU;rcases hv with ⟨_,h⟩ | ⟨sp,rfl⟩
  ·rw[h]at ZU;cases ZU
  ·simp only[Rows.uptoBulk]at hb;have:=Jd (A:=A) (List.mem_map_of_mem (f:=λp=>(DataW.agg [.lit (.string p.1),.lit (.string p.2)]:DataW A)) ZU);simp only[Rows.uptoBulk,Rows.uptoBulkAll]at this;omega
theorem alX{d:DataW A}{ts:List X.Nd}(h:LD Bf d ts)(hb:Rows.uptoBulk d<=1048576):X.Fc ts:=by
 rcases h with ⟨_,rfl⟩ | ⟨es,sp,rfl,hl,hn⟩
 ·exact⟨by simp,λi hi=>by simp at hi,λi hi=>by simp at hi,λi hi=>by simp at hi,λi hi=>by simp at hi⟩
 ·simp only[Rows.uptoBulk]at hb;have hlen:=Og es;have each:∀i (hi:i<ts.length),ts[i].kids.length<=1048576/\ts[i].name.length<=1048576/\ts[i].sort.length<=1048576/\ts[i].vars.length<=1048576/\∀v∈ts[i].vars,v.1.length<=1048576/\v.2.length<=1048576:=λi hi=>
   alW (hn i hi (by omega)) (by have:=Jd (dU (l:=es) (n:=i) (by omega));omega)
  refine⟨by omega,λi hi=>?_,λi hi=>⟨?_,?_⟩,λi hi=>?_,λi hi v hv=>⟨?_,?_⟩⟩
  ·have:=(each i hi).1;omega
  ·have:=(each i hi).2.1;omega
  ·have:=(each i hi).2.2.1;omega
  ·have:=(each i hi).2.2.2.1;omega
  ·have:=((each i hi).2.2.2.2 v hv).1;omega
  ·have:=((each i hi).2.2.2.2 v hv).2;omega
theorem Yq{α:Type}{D:DataW A->α->Prop}{d:DataW A}{l:List α}{B:Nat}(h:LD D d l)(hb:Rows.uptoBulk d<=B):∀x∈l,∃e,D e x/\Rows.uptoBulk e<=B:=by
 intro x hx;rcases h with ⟨_,rfl⟩ | ⟨es,sp,rfl,hl,hn⟩
 ·cases hx
 ·obtain⟨i,hi,rfl⟩:=lB hx;simp only[Rows.uptoBulk]at hb;have:=Jd (dU (l:=es) (n:=i) (by omega));exact⟨_,hn i hi (by omega),by omega⟩
theorem alY{d:DataW A}{l:List (List (List X.Nd))}(h:LD (LD (LD Bf)) d l)(hb:Rows.uptoBulk d<=1048576):∀x∈l,∀t∈x,X.Fc t:=by intro x hx t ht;obtain⟨e,h1,b1⟩:=Yq h hb x hx;obtain⟨f,h2,b2⟩:=Yq h1 b1 t ht;exact alX h2 b2
theorem alZ{d:DataW A}{l:List (X.S×X.S)}(h:(d=.nil/\l=[])\/∃sp,d=.slice (l.map λp=>.agg [.lit (.string p.1),.lit (.string p.2)]) sp)(hb:Rows.uptoBulk d<=1048576):∀v∈l,v.1.length<10000000:=by
 intro v hv;rcases h with ⟨_,rfl⟩ | ⟨sp,rfl⟩
 ·cases hv
 ·simp only[Rows.uptoBulk]at hb;have:=Jd (A:=A) (List.mem_map_of_mem (f:=λp=>(DataW.agg [.lit (.string p.1),.lit (.string p.2)]:DataW A)) hv);simp only[Rows.uptoBulk,Rows.uptoBulkAll]at this;omega
theorem rdT{enc:TypeId×Value->A}{W:World}:N7 enc prog W true ty 23 X.db (LD Bf):=λs _ _ _ hb gz qb _ _ _ h=>ald vE s hb gz qb h
theorem al0{enc:TypeId×Value->A}{W:World}:N7 enc prog W true ty 47 X.ju (LD (LD (LD Bf))):=
 XR (R:=X.gU) (λh e=>h.ext e) underlying47 (by kernel_rfl) (XR (R:=X.db) (λh e=>h.ext e) underlying48 (by kernel_rfl) rdT)
end
end
theorem gn0:prog.globalNamed "entail/term.connectives" =some 0:=by kernel_rfl
theorem gn1:prog.globalNamed "entail/term.reserved" =some 1:=by kernel_rfl
theorem gn2:prog.globalNamed "entail/term.shapes" =some 2:=by kernel_rfl
theorem gn4:prog.globalNamed "internal/strconv.uint64pow10" =some 4:=by kernel_rfl
theorem gn5:prog.globalNamed "math/bits.deBruijn32tab" =some 5:=by kernel_rfl
theorem gn6:prog.globalNamed "math/bits.deBruijn64tab" =some 6:=by kernel_rfl
theorem gt0:(prog.globals[0]?).map (·.type)=some 158:=by kernel_rfl
theorem Zo:(prog.globals[1]?).map (·.type)=some 213:=by kernel_rfl
theorem NI:(prog.globals[2]?).map (·.type)=some 276:=by kernel_rfl
theorem gt4:(prog.globals[4]?).map (·.type)=some 384:=by kernel_rfl
theorem gt5:(prog.globals[5]?).map (·.type)=some 403:=by kernel_rfl
theorem gt6:(prog.globals[6]?).map (·.type)=some 404:=by kernel_rfl
def qa{A:Type}(enc:TypeId×Value->A)(held:Bool)(W:World)(g t:Nat)(d:DataW A):Prop:=
 ∃cs e fr fuel p,W.heap[g]?=some (.cells cs e fr)/\DataW.trod enc prog W 0 (λ_=>true) held fuel t cs.toList=some (d,p)
theorem CB{A:Type}{enc:TypeId×Value->A}{held:Bool}{W:World}{name:String}{g t g' t':Nat}{cs:Array Value}{fuel:Nat}{d:DataW A}{p:List MemPlace}(hn:prog.globalNamed name=some g)(ht:(prog.globals[g]?).map (·.type)=some t)
 (h1:prog.globalNamed name=some g')(h2:(prog.globals[g']?).map (·.type)=some t')(h3:W.var? prog name=some cs)(h4:DataW.trod enc prog W 0 (λ_=>true) held fuel t' cs.toList=some (d,p)):qa enc held W g t d:=by
 rw[hn]at h1;injection h1 with h1;subst h1;rw[ht]at h2;injection h2 with h2;subst h2;unfold World.var? at h3;rw[hn]at h3;simp only[Bv]at h3;split at h3
 ·rename_i c e fr hh;injection h3 with h3;subst h3;exact⟨_,_,_,fuel,p,hh,h4⟩
 ·cases h3
theorem al1{W:World}(h:laidMetH prog Rows.termQuantifiesUptoRow.laid W):
 qa (λ_=>()) false W 5 403 Rows.laid_math_bits_deBruijn32tab/\qa (λ_=>()) false W 6 404 Rows.laid_math_bits_deBruijn64tab/\qa (λ_=>()) false W 4 384 Rows.laid_internal_strconv_uint64pow10/\qa (λ_=>()) false W 1 213 Rows.laid_entail_term_reserved/\qa (λ_=>()) false W 2 276 Rows.laid_entail_term_shapes/\∃d,(Rows.laid_entail_term_connectives (H:=Unit)).funcsIn?=some d/\qa (funcToken prog) true W 0 158 d.funcsOut:=by
 have e1:(Rows.termQuantifiesUptoRow.laid.filter λx=>x.2.handleName?.isSome)=[("entail/term.connectives",Rows.laid_entail_term_connectives)]:=by kernel_rfl
 have e2:(Rows.termQuantifiesUptoRow.laid.filter λx=>x.2.handleName?.isNone)=[("math/bits.deBruijn32tab",Rows.laid_math_bits_deBruijn32tab),("math/bits.deBruijn64tab",Rows.laid_math_bits_deBruijn64tab),("internal/strconv.uint64pow10",Rows.laid_internal_strconv_uint64pow10),("entail/term.reserved",Rows.laid_entail_term_reserved),("entail/term.shapes",Rows.laid_entail_term_shapes)]:=by kernel_rfl
 unfold laidMetH at h;rw[e1,e2]at h;obtain⟨⟨ps,hL,_⟩,hH⟩:=h;obtain⟨_,_,_,_,_,_,a1,a2,a3,a4,hL,_⟩:=hL;obtain⟨_,_,_,_,_,_,b1,b2,b3,b4,hL,_⟩:=hL;obtain⟨_,_,_,_,_,_,c1,c2,c3,c4,hL,_⟩:=hL;obtain⟨_,_,_,_,_,_,d1,d2,d3,d4,hL,_⟩:=hL;obtain⟨_,_,_,_,_,_,f1,f2,f3,f4,hL,_⟩:=hL;refine⟨CB gn5 gt5 a1 a2 a3 a4,CB gn6 gt6 b1 b2 b3 b4,CB gn4 gt4 c1 c2 c3 c4,CB gn1 Zo d1 d2 d3 d4,CB gn2 NI f1 f2 f3 f4,?_⟩;have:=hH _ (mN.2 rfl);obtain⟨d,hd⟩:∃d,(Rows.laid_entail_term_connectives (H:=Unit)).funcsIn?=some d:=⟨_,rfl⟩;simp only[hd]at this;obtain⟨_,_,_,_,_,g1,g2,g3,g4⟩:=this;exact⟨d,hd,CB gn0 gt0 g1 g2 g3 g4⟩
section
noncomputable def rowAt(k:K):List V:=match eM.get k with | some (.r l)=>l | _=>[]
def Yr{A:Type}:DataW A->List (DataW A) | .agg ds=>ds | _=>[]
theorem CC{A:Type}{enc:TypeId×Value->A}{held:Bool}{W:World}{η:Env}{g t:Nat}{d:DataW A}(v:qa enc held W g t d){dv:DataW A->List V}{m e sz:Nat}{l:List V}(eQ:0<sz)(ht:prog.underlying t=some (.array m e))(Mc:prog.cellsOf e=sz)(ZS:prog.cellsOf t=m*sz)
 (he:I7 enc prog W (λ_=>true) held η dv e sz)(hd:d=.agg (Yr d))(hl:(List.range m).map (λq=>(l.drop (q*sz)).take sz)=(List.range m).map (λq=>dv ((Yr d).getD q .nil)))(oA:l.length=m*sz)(room:Nat):
 g<W.heap.size/\ic (WW ty) η (.r l) ⟨g,0,room⟩ W.heap[g]?:=by
 obtain⟨cs,el,fr,fuel,p,hh,hx⟩:=v;refine⟨(oC.1 hh).1,cs,el,fr,hh,λi v hi=>?_⟩;obtain⟨y,h1,h2⟩:=alg eQ ht Mc ZS he hx hd (λq hq=>by have:=congrArg (λL=>L[q]?) hl;simp only[List.getElem?_map,List.getElem?_range hq,rz,rq]at this;exact this) oA i v hi
 exact⟨y,by rw[hY];rw[nK]at h1;exact h1,h2⟩
section
variable {W:World}{η:Env}
theorem al2(v:qa (λ_=>()) false W 5 403 Rows.laid_math_bits_deBruijn32tab)(room:Nat):5<W.heap.size/\ic (WW ty) η (.r (rowAt (cT 5))) ⟨5,0,room⟩ W.heap[5]?:=
 CC v (by decide) underlying403 (by kernel_rfl) (by kernel_rfl) (I8 (dv:=N6) (I6 underlying5 λ_=>rfl)) U (by kernel_rfl) (by kernel_rfl) room
theorem al3(v:qa (λ_=>()) false W 6 404 Rows.laid_math_bits_deBruijn64tab)(room:Nat):6<W.heap.size/\ic (WW ty) η (.r (rowAt (cT 6))) ⟨6,0,room⟩ W.heap[6]?:=
 CC v (by decide) underlying404 (by kernel_rfl) (by kernel_rfl) (I8 (dv:=N6) (I6 underlying5 λ_=>rfl)) U (by kernel_rfl) (by kernel_rfl) room
theorem al4(v:qa (λ_=>()) false W 4 384 Rows.laid_internal_strconv_uint64pow10)(room:Nat):4<W.heap.size/\ic (WW ty) η (.r (rowAt (cT 4))) ⟨4,0,room⟩ W.heap[4]?:=
 CC v (by decide) underlying384 (by kernel_rfl) (by kernel_rfl) (I8 (dv:=N6) (I6 underlying349 λ_=>rfl)) U (by kernel_rfl) (by kernel_rfl) room
theorem al5(v:qa (λ_=>()) false W 1 213 Rows.laid_entail_term_reserved)(room:Nat):1<W.heap.size/\ic (WW ty) η (.r (rowAt (cT 1))) ⟨1,0,room⟩ W.heap[1]?:=
 CC v (by decide) underlying213 (by kernel_rfl) (by kernel_rfl) (I8 (dv:=N6) (AX underlying9 λ_=>rfl)) U (by kernel_rfl) (by kernel_rfl) room
theorem al6(v:qa (λ_=>()) false W 2 276 Rows.laid_entail_term_shapes)(room:Nat):2<W.heap.size/\ic (WW ty) η (.r (rowAt (cT 2))) ⟨2,0,room⟩ W.heap[2]?:=
 CC v (by decide) underlying276 (by kernel_rfl) (by kernel_rfl) (XQ (dv:=N6) underlying275 rfl rfl rfl rfl (by kernel_rfl) (by kernel_rfl) (by kernel_rfl) (by kernel_rfl) (AX underlying9 λ_=>rfl) (AX underlying9 λ_=>rfl) (AX underlying9 λ_=>rfl) (AX underlying9 λ_=>rfl)) U (by kernel_rfl) (by kernel_rfl) room
end
end
theorem bytes_inj{a b:String}(h:a.toUTF8.data.toList=b.toUTF8.data.toList):a=b:=by have e:a.toUTF8=b.toUTF8:=ByteArray.ext (j9 h);exact String.toByteArray_inj.1 e
def CD:List (String×Nat):=[("entail/term.allBool",382),("entail/term.connectives$1",383),("entail/term.connectives$2",384),("entail/term.twoNumbers",385),("entail/term.connectives$3",386),("entail/term.connectives$4",387)]
theorem al7:∀p∈CD,prog.funcNamed p.1=some p.2:=by intro p hp;simp only[CD,fY,xA,or_false]at hp;rcases hp with rfl | rfl | rfl | rfl | rfl | rfl<;>kernel_rfl
def CE(tok:List UInt8):List (String×Nat)->Option Nat
 | []=>none
 | (s,g)::r=>if s.toUTF8.data.toList==tok then some g else CE tok r
theorem al8{tok:List UInt8}{g:Nat}:∀{l:List (String×Nat)},CE tok l=some g->∃s,(s,g)∈l/\s.toUTF8.data.toList=tok:=by
 intro l
 induction l with
 | nil=>intro h;cases h
 | cons p r ih=>
  intro h;obtain⟨s,k⟩:=p;simp only[CE]at h;split at h
  ·rename_i he;injection h with h;subst h;exact⟨s,by simp,by simpa using he⟩
  ·obtain⟨s',h1,h2⟩:=ih h;exact⟨s',by simp[h1],h2⟩
def dvF:DataW (List UInt8)->V
 | .lit (.int k n)=>.i k n
 | .lit (.string bs)=>X.st bs
 | .nil=>.nf
 | .held tok=>(match CE tok CD with | some g=>.f g [] [] | none=>.q)
 | _=>.q
theorem ama{W:World}{η:Env}:yW (funcToken prog) prog W (λ_=>true) true η dvF 155:=by
 intro fuel y x hx;cases fuel with
 | zero=>simp[DataW.trod]at hx
 | succ f=>
  unfold DataW.trod at hx;rw[underlying155]at hx;cases y<;>simp at hx
  case nilFunc=>rw[←hx];exact .nf
  case func fn first captured=>
   rw[←hx];show aC η (match CE (funcToken prog (155,.func fn first captured)) CD with | some g=>.f g [] [] | none=>.q) _
   cases hf:CE (funcToken prog (155,.func fn first captured)) CD with
   | none=>exact .q _
   | some g=>
    obtain⟨s,hm,hs⟩:=al8 hf;have hg:=al7 _ hm;have bC:s.toUTF8.data.toList≠[]:=by simp only[CD,fY,xA,or_false,Prod.mk.injEq]at hm;rcases hm with ⟨rfl,_⟩ | ⟨rfl,_⟩ | ⟨rfl,_⟩ | ⟨rfl,_⟩ | ⟨rfl,_⟩ | ⟨rfl,_⟩<;>decide
    cases fn with
    | func fid=>
     simp only[funcToken]at hs;split at hs
     ·rename_i Ys;split at hs
      ·rename_i fn oo;split at hs
       ·rename_i py;have Ou:=bytes_inj hs;subst Ou;have:prog.funcNamed fn.name=some fid:=by simpa using py
        rw[hg]at this;injection this with this;subst this;simp only[bG,Array.isEmpty_iff]at Ys;obtain⟨rfl,rfl⟩:=Ys;exact .f _ _ _ _ _ .nil .nil
       ·exact absurd hs bC
      ·exact absurd hs bC
     ·exact absurd hs bC
    | _=>exact absurd hs bC
theorem amb{W:World}{η:Env}{d:DataW Unit}(hd:(Rows.laid_entail_term_connectives (H:=Unit)).funcsIn?=some d)(v:qa (funcToken prog) true W 0 158 d.funcsOut)(room:Nat):0<W.heap.size/\ic (WW ty) η (.r (rowAt (cT 0))) ⟨0,0,room⟩ W.heap[0]?:=by injection (hd:some _=some d) with hd;subst hd;exact CC v (by decide) underlying158 (by kernel_rfl) (by kernel_rfl) (XQ (dv:=dvF) underlying157 rfl rfl rfl rfl (by kernel_rfl) (by kernel_rfl) (by kernel_rfl) (by kernel_rfl) (AX underlying9 λ_=>rfl) (I6 underlying3 λ_=>rfl) (AX underlying9 λ_=>rfl) ama) U (by kernel_rfl) (by kernel_rfl) room
def CF{α:Type}:(K->K)->Tr α->List K
 | _,.e=>[]
 | f,.n v l r=>(match v with | none=>[] | some _=>[f .h])++(CF (λp=>f (.o p)) l++CF (λp=>f (.i p)) r)
theorem amc{α:Type}:∀{t:Tr α} {f:K->K} {k:K} {o:α},t.get k=some o->f k∈CF f t:=by
 intro t
 induction t with
 | e=>intro f k o h;rw[Tr.iz]at h;cases h
 | n v l r lU tX=>
  intro f k o h;cases k with
  | h=>simp only[Tr.get]at h;subst h;simp[CF]
  | o k=>exact Di _ (List.mem_append_left _ (lU (f:=λp=>f (.o p)) h))
  | i k=>exact Di _ (Di _ (tX (f:=λp=>f (.i p)) h))
theorem amd{k:K}{o:O}(h:eM.get k=some o)(hr:∃l,o=.r l):o=.r (rowAt k):=by obtain⟨l,rfl⟩:=hr;unfold rowAt;rw[h]
def FQ:Env:=λk=>if k.num<=7 then some ⟨k.num - 1,0,0⟩ else none
theorem xc{q:Nat}(h:q<7):FQ (cT q)=some ⟨q,0,0⟩:=by unfold FQ;rw[zK,az (by omega),Nat.add_sub_cancel]
theorem ame:cM FQ ty.g:=λq hq=>⟨⟨q,0,0⟩,xc hq,rfl,rfl⟩
theorem start{W:World}(h:laidMetH prog Rows.termQuantifiesUptoRow.laid W):St ty W FQ eM (cT 7)/\GA eM.get (cT 7):=by
 obtain⟨v5,v6,v4,v1,v2,d,hd,v0⟩:=al1 h;have xh:Ca (cT 7) eM=true:=by kernel_rfl
 have fo:∀k o,eM.get k=some o->∃l,o=.r l:=λk o hk=>by obtain⟨l,h1,_⟩:=Iu xh hk;exact⟨l,h1⟩
 have Yt:∀k o,eM.get k=some o->k=cT 0\/k=cT 1\/k=cT 2\/k=cT 4\/k=cT 5\/k=cT 6:=λk o hk=>by
  have h1:=amc (f:=id) hk;have h2:∀x∈CF id eM,x=cT 0\/x=cT 1\/x=cT 2\/x=cT 4\/x=cT 5\/x=cT 6:=by
   have e:CF id eM=[cT 0,cT 1,cT 5,cT 2,cT 4,cT 6]:=by kernel_rfl
   rw[e];intro x hx;simp only[fY,xA,or_false]at hx;rcases hx with h | h | h | h | h | h<;>simp[h]
  exact h2 _ h1
 refine⟨⟨⟨λk o hk=>?_,λk k' o o' L L' bC hk hm=>?_,λk hk=>?_⟩,fo⟩,λk o hk=>⟨?_,hk⟩⟩
 ·have ho:=amd hk (fo k o hk);subst ho;rcases Yt k _ hk with rfl | rfl | rfl | rfl | rfl | rfl
  ·exact⟨_,xc (by omega),amb hd v0 0⟩
  ·exact⟨_,xc (by omega),al5 v1 0⟩
  ·exact⟨_,xc (by omega),al6 v2 0⟩
  ·exact⟨_,xc (by omega),al4 v4 0⟩
  ·exact⟨_,xc (by omega),al2 v5 0⟩
  ·exact⟨_,xc (by omega),al3 v6 0⟩
 ·obtain⟨l,rfl⟩:=fo k o hk;cases hm
 ·unfold FQ;rw[zK]at hk;rw[ai (by omega)]
 ·rcases Yt k o hk with rfl | rfl | rfl | rfl | rfl | rfl<;>(rw[zK,zK];omega)
end Go.Proofs.YtpdbepbhlalldaaGreatDoor
end
