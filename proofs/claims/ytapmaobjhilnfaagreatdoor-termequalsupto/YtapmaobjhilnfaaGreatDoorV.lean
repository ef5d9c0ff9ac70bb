/- A part of the proof. -/
import Derived.Test.YtapmaobjhilnfaaGreatDoorRows
import Derived.Test.YtapmaobjhilnfaaGreatDoorQ
import Derived.Test.YtapmaobjhilnfaaGreatDoorJ
set_option linter.all false
section
set_option maxRecDepth 1000000
namespace Go.Proofs.YtapmaobjhilnfaaGreatDoor
open Go Go.Ev Go.Proofs.Tryz
section
theorem XS:IP prog 23 69 ({ name:= "Op",type:=3,offset:=0,embedded:=false,tag:= "",pkgPath:= "",byteOffset:=0}) ({ name:= "Sort",type:=9,offset:=1,embedded:=false,tag:= "",pkgPath:= "",byteOffset:=8}) ({ name:= "Name",type:=9,offset:=2,embedded:=false,tag:= "",pkgPath:= "",byteOffset:=24}) ({ name:= "Vars",type:=41,offset:=3,embedded:=false,tag:= "",pkgPath:= "",byteOffset:=40}) ({ name:= "Kids",type:=67,offset:=4,embedded:=false,tag:= "",pkgPath:= "",byteOffset:=64}) 40 ({ name:= "Name",type:=9,offset:=0,embedded:=false,tag:= "",pkgPath:= "",byteOffset:=0}) ({ name:= "Sort",type:=9,offset:=1,embedded:=false,tag:= "",pkgPath:= "",byteOffset:=16}) 3 where
 ht:=underlying23
 he:=underlying69
 ce:=by kernel_rfl
 o0:=rfl
 o1:=rfl
 o2:=rfl
 o3:=rfl
 o4:=rfl
 c0:=by kernel_rfl
 c1:=by kernel_rfl
 c2:=by kernel_rfl
 c3:=by kernel_rfl
 c4:=by kernel_rfl
 u0:=underlying3
 u1:=underlying9
 u2:=underlying9
 u3:=underlying41
 u4:=underlying67
 ui:=underlying3
 ci:=by kernel_rfl
 up:=underlying40
 cp:=by kernel_rfl
 po0:=rfl
 po1:=rfl
 pc0:=by kernel_rfl
 pc1:=by kernel_rfl
 pu0:=underlying9
 pu1:=underlying9
section
variable {A:Type}
theorem aop(d:DataW A):1<=Rows.uptoBulk d:=by
 cases d with
 | lit l=>cases l<;>simp[Rows.uptoBulk]
 | _=>simp[Rows.uptoBulk]
theorem N6:∀es:List (DataW A),es.length<=Rows.uptoBulkAll es:=by
 intro es
 induction es with
 | nil=>simp[Rows.uptoBulkAll]
 | cons d r ih=>have:=aop d;simp only[Rows.uptoBulkAll,fH];omega
theorem XT:∀{es:List (DataW A)} {d:DataW A},d∈es->Rows.uptoBulk d<=Rows.uptoBulkAll es:=by
 intro es
 induction es with
 | nil=>intro d h;cases h
 | cons e r ih=>
  intro d h;simp only[Rows.uptoBulkAll];rcases fX.1 h with rfl | h
  ·omega
  ·have:=ih h;omega
theorem aoq{d:DataW A}{x:X.Nd}{B:Nat}(h:GN d x)(hb:Rows.uptoBulk d<=B):x.kids.length<=B/\x.name.length<=B/\x.sort.length<=B/\x.vars.length<=B/\∀v∈x.vars,v.1.length<=B/\v.2.length<=B:=by
 obtain⟨dv,dk,rfl,hv,hk⟩:=h;simp only[Rows.uptoBulk,Rows.uptoBulkAll]at hb;have h1:x.kids.length<=B:=by
  rcases hk with ⟨_,h⟩ | ⟨es,sp,rfl,h⟩
  ·omega
  ·simp only[Rows.uptoBulk]at hb;have:=N6 es;omega
 refine⟨h1,by omega,by omega,?_,?_⟩
 ·rcases hv with ⟨_,h⟩ | ⟨sp,rfl⟩
  ·rw[h];simp
  ·simp only[Rows.uptoBulk]at hb;have:=N6 (x.vars.map λp=>(DataW.agg [.lit (.string p.1),.lit (.string p.2)]:DataW A));rw[wy]at this;omega
 ·intro v Zm;rcases hv with ⟨_,h⟩ | ⟨sp,rfl⟩
  ·rw[h]at Zm;cases Zm
  ·simp only[Rows.uptoBulk]at hb;have:=XT (A:=A) (List.mem_map_of_mem (f:=λp=>(DataW.agg [.lit (.string p.1),.lit (.string p.2)]:DataW A)) Zm);simp only[Rows.uptoBulk,Rows.uptoBulkAll]at this;omega
theorem XU{d:DataW A}{ts:List X.Nd}(h:(d=.nil/\ts=[])\/∃es sp,d=.slice es sp/\es.length=ts.length/\∀j (h1:j<ts.length) (h2:j<es.length),GN es[j] ts[j])(hb:Rows.uptoBulk d<=1048576):X.Gz ts:=by
 rcases h with ⟨_,rfl⟩ | ⟨es,sp,rfl,hl,hn⟩
 ·exact⟨by simp,λi hi=>by simp at hi,λi hi=>by simp at hi,λi hi=>by simp at hi,λi hi=>by simp at hi⟩
 ·simp only[Rows.uptoBulk]at hb;have hlen:=N6 es;have each:∀i (hi:i<ts.length),ts[i].kids.length<=1048576/\ts[i].name.length<=1048576/\ts[i].sort.length<=1048576/\ts[i].vars.length<=1048576/\∀v∈ts[i].vars,v.1.length<=1048576/\v.2.length<=1048576:=λi hi=>
   aoq (hn i hi (by omega)) (by have:=XT (fW (l:=es) (n:=i) (by omega));omega)
  refine⟨by omega,λi hi=>?_,λi hi=>⟨?_,?_⟩,λi hi=>?_,λi hi v hv=>⟨?_,?_⟩⟩
  ·have:=(each i hi).1;omega
  ·have:=(each i hi).2.1;omega
  ·have:=(each i hi).2.2.1;omega
  ·have:=(each i hi).2.2.2.1;omega
  ·have:=((each i hi).2.2.2.2 v hv).1;omega
  ·have:=((each i hi).2.2.2.2 v hv).2;omega
end
end
theorem gn0:prog.globalNamed "entail/term.connectives" =some 0:=by kernel_rfl
theorem gn1:prog.globalNamed "entail/term.reserved" =some 1:=by kernel_rfl
theorem gn2:prog.globalNamed "entail/term.shapes" =some 2:=by kernel_rfl
theorem gn4:prog.globalNamed "internal/strconv.uint64pow10" =some 4:=by kernel_rfl
theorem gn5:prog.globalNamed "math/bits.deBruijn32tab" =some 5:=by kernel_rfl
theorem gn6:prog.globalNamed "math/bits.deBruijn64tab" =some 6:=by kernel_rfl
theorem gt0:(prog.globals[0]?).map (·.type)=some 131:=by kernel_rfl
theorem Zb:(prog.globals[1]?).map (·.type)=some 192:=by kernel_rfl
theorem NG:(prog.globals[2]?).map (·.type)=some 252:=by kernel_rfl
theorem gt4:(prog.globals[4]?).map (·.type)=some 358:=by kernel_rfl
theorem gt5:(prog.globals[5]?).map (·.type)=some 377:=by kernel_rfl
theorem gt6:(prog.globals[6]?).map (·.type)=some 378:=by kernel_rfl
def pQ{A:Type}(enc:TypeId×Value->A)(held:Bool)(W:World)(g t:Nat)(d:DataW A):Prop:=
 ∃cs e fr fuel p,W.heap[g]?=some (.cells cs e fr)/\DataW.trod enc prog W 0 (λ_=>true) held fuel t cs.toList=some (d,p)
theorem CO{A:Type}{enc:TypeId×Value->A}{held:Bool}{W:World}{name:String}{g t g' t':Nat}{cs:Array Value}{fuel:Nat}{d:DataW A}{p:List MemPlace}(hn:prog.globalNamed name=some g)(ht:(prog.globals[g]?).map (·.type)=some t)
 (h1:prog.globalNamed name=some g')(h2:(prog.globals[g']?).map (·.type)=some t')(h3:W.var? prog name=some cs)(h4:DataW.trod enc prog W 0 (λ_=>true) held fuel t' cs.toList=some (d,p)):pQ enc held W g t d:=by
 rw[hn]at h1;injection h1 with h1;subst h1;rw[ht]at h2;injection h2 with h2;subst h2;unfold World.var? at h3;rw[hn]at h3;simp only[BA]at h3;split at h3
 ·rename_i c e fr hh;injection h3 with h3;subst h3;exact⟨_,_,_,fuel,p,hh,h4⟩
 ·cases h3
theorem aor{W:World}(h:laidMetH prog Rows.termEqualsUptoRow.laid W):
 pQ (λ_=>()) false W 5 377 Rows.laid_math_bits_deBruijn32tab/\pQ (λ_=>()) false W 6 378 Rows.laid_math_bits_deBruijn64tab/\pQ (λ_=>()) false W 4 358 Rows.laid_internal_strconv_uint64pow10/\pQ (λ_=>()) false W 1 192 Rows.laid_entail_term_reserved/\pQ (λ_=>()) false W 2 252 Rows.laid_entail_term_shapes/\∃d,(Rows.laid_entail_term_connectives (H:=Unit)).funcsIn?=some d/\pQ (funcToken prog) true W 0 131 d.funcsOut:=by
 have e1:(Rows.termEqualsUptoRow.laid.filter λx=>x.2.handleName?.isSome)=[("entail/term.connectives",Rows.laid_entail_term_connectives)]:=by kernel_rfl
 have e2:(Rows.termEqualsUptoRow.laid.filter λx=>x.2.handleName?.isNone)=[("math/bits.deBruijn32tab",Rows.laid_math_bits_deBruijn32tab),("math/bits.deBruijn64tab",Rows.laid_math_bits_deBruijn64tab),("internal/strconv.uint64pow10",Rows.laid_internal_strconv_uint64pow10),("entail/term.reserved",Rows.laid_entail_term_reserved),("entail/term.shapes",Rows.laid_entail_term_shapes)]:=by kernel_rfl
 unfold laidMetH at h;rw[e1,e2]at h;obtain⟨⟨ps,hL,_⟩,hH⟩:=h;obtain⟨_,_,_,_,_,_,a1,a2,a3,a4,hL,_⟩:=hL;obtain⟨_,_,_,_,_,_,b1,b2,b3,b4,hL,_⟩:=hL;obtain⟨_,_,_,_,_,_,c1,c2,c3,c4,hL,_⟩:=hL;obtain⟨_,_,_,_,_,_,d1,d2,d3,d4,hL,_⟩:=hL;obtain⟨_,_,_,_,_,_,f1,f2,f3,f4,hL,_⟩:=hL;refine⟨CO gn5 gt5 a1 a2 a3 a4,CO gn6 gt6 b1 b2 b3 b4,CO gn4 gt4 c1 c2 c3 c4,CO gn1 Zb d1 d2 d3 d4,CO gn2 NG f1 f2 f3 f4,?_⟩;have:=hH _ (zB.2 rfl);obtain⟨d,hd⟩:∃d,(Rows.laid_entail_term_connectives (H:=Unit)).funcsIn?=some d:=⟨_,rfl⟩;simp only[hd]at this;obtain⟨_,_,_,_,_,g1,g2,g3,g4⟩:=this;exact⟨d,hd,CO gn0 gt0 g1 g2 g3 g4⟩
section
noncomputable def rowAt(k:K):List V:=match eB.get k with | some (.r l)=>l | _=>[]
def XV{A:Type}:DataW A->List (DataW A) | .agg ds=>ds | _=>[]
theorem CP{A:Type}{enc:TypeId×Value->A}{held:Bool}{W:World}{η:Env}{g t:Nat}{d:DataW A}(v:pQ enc held W g t d){dv:DataW A->List V}{m e sz:Nat}{l:List V}(eF:0<sz)(ht:prog.underlying t=some (.array m e))(L3:prog.cellsOf e=sz)(Zk:prog.cellsOf t=m*sz)
 (he:IS enc prog W (λ_=>true) held η dv e sz)(hd:d=.agg (XV d))(hl:(List.range m).map (λq=>(l.drop (q*sz)).take sz)=(List.range m).map (λq=>dv ((XV d).getD q .nil)))(tt:l.length=m*sz)(room:Nat):
 g<W.heap.size/\gO (WW ty) η (.r l) ⟨g,0,room⟩ W.heap[g]?:=by
 obtain⟨cs,el,fr,fuel,p,hh,hx⟩:=v;refine⟨(oh.1 hh).1,cs,el,fr,hh,λi v hi=>?_⟩;obtain⟨y,h1,h2⟩:=akq eF ht L3 Zk he hx hd (λq hq=>by have:=congrArg (λL=>L[q]?) hl;simp only[List.getElem?_map,List.getElem?_range hq,rk,p7]at this;exact this) tt i v hi
 exact⟨y,by rw[iI];rw[nE]at h1;exact h1,h2⟩
section
variable {W:World}{η:Env}
theorem aos(v:pQ (λ_=>()) false W 5 377 Rows.laid_math_bits_deBruijn32tab)(room:Nat):5<W.heap.size/\gO (WW ty) η (.r (rowAt (cz 5))) ⟨5,0,room⟩ W.heap[5]?:=
 CP v (by decide) underlying377 (by kernel_rfl) (by kernel_rfl) (IT (dv:=NX) (IQ underlying5 λ_=>rfl)) U (by kernel_rfl) (by kernel_rfl) room
theorem aot(v:pQ (λ_=>()) false W 6 378 Rows.laid_math_bits_deBruijn64tab)(room:Nat):6<W.heap.size/\gO (WW ty) η (.r (rowAt (cz 6))) ⟨6,0,room⟩ W.heap[6]?:=
 CP v (by decide) underlying378 (by kernel_rfl) (by kernel_rfl) (IT (dv:=NX) (IQ underlying5 λ_=>rfl)) U (by kernel_rfl) (by kernel_rfl) room
theorem aou(v:pQ (λ_=>()) false W 4 358 Rows.laid_internal_strconv_uint64pow10)(room:Nat):4<W.heap.size/\gO (WW ty) η (.r (rowAt (cz 4))) ⟨4,0,room⟩ W.heap[4]?:=
 CP v (by decide) underlying358 (by kernel_rfl) (by kernel_rfl) (IT (dv:=NX) (IQ underlying326 λ_=>rfl)) U (by kernel_rfl) (by kernel_rfl) room
theorem aov(v:pQ (λ_=>()) false W 1 192 Rows.laid_entail_term_reserved)(room:Nat):1<W.heap.size/\gO (WW ty) η (.r (rowAt (cz 1))) ⟨1,0,room⟩ W.heap[1]?:=
 CP v (by decide) underlying192 (by kernel_rfl) (by kernel_rfl) (IT (dv:=NX) (A5 underlying9 λ_=>rfl)) U (by kernel_rfl) (by kernel_rfl) room
theorem aow(v:pQ (λ_=>()) false W 2 252 Rows.laid_entail_term_shapes)(room:Nat):2<W.heap.size/\gO (WW ty) η (.r (rowAt (cz 2))) ⟨2,0,room⟩ W.heap[2]?:=
 CP v (by decide) underlying252 (by kernel_rfl) (by kernel_rfl) (Xj (dv:=NX) underlying251 rfl rfl rfl rfl (by kernel_rfl) (by kernel_rfl) (by kernel_rfl) (by kernel_rfl) (A5 underlying9 λ_=>rfl) (A5 underlying9 λ_=>rfl) (A5 underlying9 λ_=>rfl) (A5 underlying9 λ_=>rfl)) U (by kernel_rfl) (by kernel_rfl) room
end
end
theorem bytes_inj{a b:String}(h:a.toUTF8.data.toList=b.toUTF8.data.toList):a=b:=by have e:a.toUTF8=b.toUTF8:=ByteArray.ext (jP h);exact String.toByteArray_inj.1 e
def CQ:List (String×Nat):=[("entail/term.allBool",349),("entail/term.connectives$1",350),("entail/term.connectives$2",351),("entail/term.twoNumbers",352),("entail/term.connectives$3",353),("entail/term.connectives$4",354)]
theorem aox:∀p∈CQ,prog.funcNamed p.1=some p.2:=by intro p hp;simp only[CQ,fX,xN,or_false]at hp;rcases hp with rfl | rfl | rfl | rfl | rfl | rfl<;>kernel_rfl
def CR(tok:List UInt8):List (String×Nat)->Option Nat
 | []=>none
 | (s,g)::r=>if s.toUTF8.data.toList==tok then some g else CR tok r
theorem aoy{tok:List UInt8}{g:Nat}:∀{l:List (String×Nat)},CR tok l=some g->∃s,(s,g)∈l/\s.toUTF8.data.toList=tok:=by
 intro l
 induction l with
 | nil=>intro h;cases h
 | cons p r ih=>
  intro h;obtain⟨s,k⟩:=p;simp only[CR]at h;split at h
  ·rename_i he;injection h with h;subst h;exact⟨s,by simp,by simpa using he⟩
  ·obtain⟨s',h1,h2⟩:=ih h;exact⟨s',by simp[h1],h2⟩
def dvF:DataW (List UInt8)->V
 | .lit (.int k n)=>.i k n
 | .lit (.string bs)=>X.st bs
 | .nil=>.nf
 | .held tok=>(match CR tok CQ with | some g=>.f g [] [] | none=>.q)
 | _=>.q
theorem aoA{W:World}{η:Env}:yQ (funcToken prog) prog W (λ_=>true) true η dvF 128:=by
 intro fuel y x hx;cases fuel with
 | zero=>simp[DataW.trod]at hx
 | succ f=>
  unfold DataW.trod at hx;rw[underlying128]at hx;cases y<;>simp at hx
  case nilFunc=>rw[←hx];exact .nf
  case func fn first captured=>
   rw[←hx];show al η (match CR (funcToken prog (128,.func fn first captured)) CQ with | some g=>.f g [] [] | none=>.q) _
   cases hf:CR (funcToken prog (128,.func fn first captured)) CQ with
   | none=>exact .q _
   | some g=>
    obtain⟨s,hm,hs⟩:=aoy hf;have hg:=aox _ hm;have aR:s.toUTF8.data.toList≠[]:=by simp only[CQ,fX,xN,or_false,Prod.mk.injEq]at hm;rcases hm with ⟨rfl,_⟩ | ⟨rfl,_⟩ | ⟨rfl,_⟩ | ⟨rfl,_⟩ | ⟨rfl,_⟩ | ⟨rfl,_⟩<;>decide
    cases fn with
    | func fid=>
     simp only[funcToken]at hs;split at hs
     ·rename_i XW;split at hs
      ·rename_i fn nZ;split at hs
       ·rename_i ka;have Of:=bytes_inj hs;subst Of;have:prog.funcNamed fn.name=some fid:=by simpa using ka
        rw[hg]at this;injection this with this;subst this;simp only[bh,Array.isEmpty_iff]at XW;obtain⟨rfl,rfl⟩:=XW;exact .f _ _ _ _ _ .nil .nil
       ·exact absurd hs aR
      ·exact absurd hs aR
     ·exact absurd hs aR
    | _=>exact absurd hs aR
theorem aoB{W:World}{η:Env}{d:DataW Unit}(hd:(Rows.laid_entail_term_connectives (H:=Unit)).funcsIn?=some d)(v:pQ (funcToken prog) true W 0 131 d.funcsOut)(room:Nat):0<W.heap.size/\gO (WW ty) η (.r (rowAt (cz 0))) ⟨0,0,room⟩ W.heap[0]?:=by injection (hd:some _=some d) with hd;subst hd;exact CP v (by decide) underlying131 (by kernel_rfl) (by kernel_rfl) (Xj (dv:=dvF) underlying130 rfl rfl rfl rfl (by kernel_rfl) (by kernel_rfl) (by kernel_rfl) (by kernel_rfl) (A5 underlying9 λ_=>rfl) (IQ underlying3 λ_=>rfl) (A5 underlying9 λ_=>rfl) aoA) U (by kernel_rfl) (by kernel_rfl) room
def CS{α:Type}:(K->K)->Tr α->List K
 | _,.e=>[]
 | f,.n v l r=>(match v with | none=>[] | some _=>[f .h])++(CS (λp=>f (.o p)) l++CS (λp=>f (.i p)) r)
theorem aoC{α:Type}:∀{t:Tr α} {f:K->K} {k:K} {o:α},t.get k=some o->f k∈CS f t:=by
 intro t
 induction t with
 | e=>intro f k o h;rw[Tr.gZ]at h;cases h
 | n v l r kR qf=>
  intro f k o h;cases k with
  | h=>simp only[Tr.get]at h;subst h;simp[CS]
  | o k=>exact Bx _ (List.mem_append_left _ (kR (f:=λp=>f (.o p)) h))
  | i k=>exact Bx _ (Bx _ (qf (f:=λp=>f (.i p)) h))
theorem aoD{k:K}{o:O}(h:eB.get k=some o)(hr:∃l,o=.r l):o=.r (rowAt k):=by obtain⟨l,rfl⟩:=hr;unfold rowAt;rw[h]
def F4:Env:=λk=>if k.num<=7 then some ⟨k.num - 1,0,0⟩ else none
theorem xn{q:Nat}(h:q<7):F4 (cz q)=some ⟨q,0,0⟩:=by unfold F4;rw[zN,au (by omega),Nat.add_sub_cancel]
theorem aoE:ch F4 ty.g:=λq hq=>⟨⟨q,0,0⟩,xn hq,rfl,rfl⟩
theorem start{W:World}(h:laidMetH prog Rows.termEqualsUptoRow.laid W):St ty W F4 eB (cz 7)/\GA eB.get (cz 7):=by
 obtain⟨v5,v6,v4,v1,v2,d,hd,v0⟩:=aor h;have tN:Cq (cz 7) eB=true:=by kernel_rfl
 have tk:∀k o,eB.get k=some o->∃l,o=.r l:=λk o hk=>by obtain⟨l,h1,_⟩:=Il tN hk;exact⟨l,h1⟩
 have XX:∀k o,eB.get k=some o->k=cz 0\/k=cz 1\/k=cz 2\/k=cz 4\/k=cz 5\/k=cz 6:=λk o hk=>by
  have h1:=aoC (f:=id) hk;have h2:∀x∈CS id eB,x=cz 0\/x=cz 1\/x=cz 2\/x=cz 4\/x=cz 5\/x=cz 6:=by
   have e:CS id eB=[cz 0,cz 1,cz 5,cz 2,cz 4,cz 6]:=by kernel_rfl
   rw[e];intro x hx;simp only[fX,xN,or_false]at hx;rcases hx with h | h | h | h | h | h<;>simp[h]
  exact h2 _ h1
 refine⟨⟨⟨λk o hk=>?_,λk k' o o' L L' aR hk hm=>?_,λk hk=>?_⟩,tk⟩,λk o hk=>⟨?_,hk⟩⟩
 ·have ho:=aoD hk (tk k o hk);subst ho;rcases XX k _ hk with rfl | rfl | rfl | rfl | rfl | rfl
  ·exact⟨_,xn (by omega),aoB hd v0 0⟩
  ·exact⟨_,xn (by omega),aov v1 0⟩
  ·exact⟨_,xn (by omega),aow v2 0⟩
  ·exact⟨_,xn (by omega),aou v4 0⟩
  ·exact⟨_,xn (by omega),aos v5 0⟩
  ·exact⟨_,xn (by omega),aot v6 0⟩
 ·obtain⟨l,rfl⟩:=tk k o hk;cases hm
 ·unfold F4;rw[zN]at hk;rw[Ξ (by omega)]
 ·rcases XX k o hk with rfl | rfl | rfl | rfl | rfl | rfl<;>(rw[zN,zN];omega)
end Go.Proofs.YtapmaobjhilnfaaGreatDoor
end
