/- A part of the proof. -/
import Derived.Deep.SlicePairs
import Derived.ChangeSlices
import Derived.OpenShut
import Derived.Test.YtjflaalpkjchoaaGreatDoorF
import Derived.Test.YtjflaalpkjchoaaGreatDoorI
import Derived.Test.YtjflaalpkjchoaaGreatDoorW
set_option linter.all false
namespace Go.Ev
open Go
structure St(ty:Ty)(W:World)(η:Env)(H:Hp)(n:K):Prop where
 rep:aU (WW ty) η H n W
 ro:∀k o,H.get k=some o->∃l,o=.r l
def Wa{ty:Ty}{W:World}{η:Env}{H:Hp}{n:K}(s:St ty W η H n){l:List V}{L:Loc}(hb:L.blk<W.heap.size)(d:gN (WW ty) η (.r l) L W.heap[L.blk]?):
 ∃η' H',η.le η'/\St ty W η' H' n.succ/\η' n=some L/\H'.get=X.hp H.get n (some (.r l)):=by
 have f:η n=none:=s.rep.free n (ξ _);let η':Env:=λk=>if k=n then some L else η k
 have hle:η.le η':=λk M h=>by
  show(if k=n then some L else η k)=some M
  by_cases a:k=n
  ·rw[a,f]at h;cases h
  ·rw[Γ a];exact h
 have c:η' n=some L:=by show(if n=n then some L else η n)=_;rw[ab rfl]
 have b:(H.put (some (.r l)) n).get=X.hp H.get n (some (.r l)):=X.fE H n _;refine⟨η',H.put (some (.r l)) n,hle,⟨⟨λk o a=>?_,λk k' o o' M M' i a hm=>?_,λk a=>?_⟩,λk o a=>?_⟩,c,b⟩
 ·rw[b]at a;by_cases e:k=n
  ·subst e;rw[X.eJ]at a;injection a with a;subst a;exact⟨L,c,hb,d.mono hle⟩
  ·rw[X.mu _ _ e]at a;obtain⟨M,h1,h2,g⟩:=s.rep.obj k o a;exact⟨M,hle _ _ h1,h2,g.mono hle⟩
 ·exfalso;rw[b]at a;by_cases e:k=n
  ·subst e;rw[X.eJ]at a;injection a with a;subst a;cases hm
  ·rw[X.mu _ _ e]at a;obtain⟨l',rfl⟩:=s.ro k o a;cases hm
 ·have h1:n.num<k.num:=by rw[K.eI]at a;omega
  show(if k=n then some L else η k)=none
  rw[Γ (λe=>by rw[e]at h1;omega)];exact s.rep.free k (by omega)
 ·rw[b]at a;by_cases e:k=n
  ·subst e;rw[X.eJ]at a;injection a with a;exact⟨l,a.symm⟩
  ·rw[X.mu _ _ e]at a;exact s.ro k o a
def anV{ty:Ty}{W:World}{η:Env}{blk off room:Nat}{l:List V}{ys:List Value}(h0:0<ys.length)(f:∀i y,ys[i]?=some y->W.cell? ⟨blk,off+i,none⟩=some y)(hv:aL η l ys):
 blk<W.heap.size/\gN (WW ty) η (.r l) ⟨blk,off,room⟩ W.heap[blk]?:=by
 obtain⟨g,j⟩:∃y,ys[0]?=some y:=⟨ys[0],by simp[h0]⟩;have h1:=f 0 g j;unfold World.cell? at h1;simp only at h1;split at h1
 case h_2=>cases h1
 rename_i c e fr b;refine⟨(mU.1 b).1,c,e,fr,b,λi v hi=>?_⟩;have k:∀{l:List V} {ys:List Value},aL η l ys->∀{i:Nat} {v:V},l[i]?=some v->∃y,ys[i]?=some y/\an η v y:=by
  intro l
  induction l with
  | nil=>intro ys _ i v h;simp at h
  | cons a l ih=>
   intro ys d i v h;cases d with
   | cons _ y _ ys h1 h2=>
    cases i with
    | zero=>simp at h;subst h;exact⟨y,rfl,h1⟩
    | succ i=>simpa using ih h2 (i:=i) (by simpa using h)
 obtain⟨y,m,d⟩:=k hv hi;have h2:=f i y m;unfold World.cell? at h2;rw[show W.heap[(⟨blk,off+i,none⟩:Addr).block]?=some (.cells c e fr) from b]at h2;exact⟨y,by simpa using h2,d⟩
def GI{η:Env}{H:Hp}{n:K}{b:K}{L:Loc}{l:List V}(hb:η b=some L)(a:b.num<n.num)(c:H.get b=some (.r l))(z:Nat)(A:Addr):X.κ H.get n z (.su b 0 0 z) 0 []/\an η (.su b 0 0 z) (.slice (some A) 0 0):=by
 refine⟨⟨by simp,Or.inr ⟨⟨b,0,0,Or.inr U,a⟩,l,?_,?_⟩⟩,.se b 0 z A L hb⟩
 ·show X.iP H.get b=some l;simp[X.iP,c,O.row]
 ·show cw l 0 (0*z)=some [];rw[Nat.zero_mul];rw[X.ug (by omega)];simp
end Go.Ev
namespace Go.Ev
open Go Go.ChangeShapes Go.Deep
section
def GJ{W:World}{a:Addr}{y:Value}(h:W.cell? a=some y):a.spot=none:=by
 unfold World.cell? at h;split at h
 ·split at h
  ·cases h
  ·rename_i h2;cases hs:a.spot with
   | none=>rfl
   | some _=>rw[hs]at h2;exact absurd rfl h2
 ·cases h
def Ax(b o n:Nat):(⟨b,o,none⟩:Addr).add n=⟨b,o+n,none⟩:=by
 unfold Addr.add;by_cases h:n=0
 ·subst h;simp
 ·rw[Γ h]
def anW{ty:Ty}{W:World}{η:Env}{H:Hp}{n:K}(s:St ty W η H n){z len cap blk off:Nat}{cs:List V}{ys:List Value}(h0:0<ys.length)(c:∀i y,ys[i]?=some y->W.cell? ⟨blk,off+i,none⟩=some y)(hv:aL η cs ys)
 (hl:cs.length=cap*z)(a:len<=cap):
 ∃η' H' v,η.le η'/\St ty W η' H' n.succ/\X.Ext H.get n H'.get n.succ/\X.κ H'.get n.succ z v len (cs.take (len*z))/\an η' v (.slice (some ⟨blk,off,none⟩) len cap):=by
 obtain⟨hb,d⟩:=anV (ty:=ty) (room:=0) h0 c hv;obtain⟨η',H',hle,hs,e,b⟩:=Wa s (L:=⟨blk,off,0⟩) hb d;have f:len*z<=cs.length:=by rw[hl];exact gE _ a
 refine⟨η',H',.sl n 0 len cap,hle,hs,by rw[b];exact(X.Ext.refl _ _).new _,?_,?_⟩
 ·refine X.κ.of (by rw[K.eI];omega) (row:=cs) ?_ a (by simp;omega) ?_
  ·rw[b];simp[X.iP,X.eJ,O.row]
  ·rw[X.ug (by omega),ig]
 ·have:=an.sl (η:=η') n 0 len cap ⟨blk,off,0⟩ e;simpa using this
section
variable {A:Type}{enc:TypeId×Value->A}{P:Program}{W:World}{held:Bool}{ty:Ty}{η:Env}{H:Hp}{n:K}
def Mr(d:DataW A)(m:Nat):Prop:=(d=.nil/\m=0)\/∃es sp,d=.slice es sp/\es.length=m
def anX(s:St ty W η H n){b:K}{Lb:Loc}{lb:List V}(hb:η b=some Lb)(p:b.num<n.num)(q:H.get b=some (.r lb)){t e:TypeId}{fuel:Nat}{y:Value}{x:DataW A×List MemPlace}
 (ht:P.underlying t=some (.slice e))(he:P.underlying e=some (.int .i64))(u:P.cellsOf e=1)(h:DataW.trod enc P W 0 (λ_=>true) held fuel t [y]=some x):
 ∃η' H' n' v l,η.le η'/\St ty W η' H' n'/\X.Ext H.get n H'.get n'/\X.fh H'.get n' .i64 v l/\an η' v y/\Mr x.1 l.length:=by
 rcases open_ints ht he u h with ⟨h1,h2⟩ | ⟨a,len,cap,zs,h1,_,hl,hm,g,j,c,w⟩
 ·injection h1 with h1;subst h1;subst h2;exact⟨η,H,n,.ns,[],λ_ _ h=>h,s,X.Ext.refl _ _,X.κ.ns _ _ _,.ns,Or.inl ⟨rfl,rfl⟩⟩
 ·injection h1 with h1;subst h1;simp only[if_true]at g;have hlen:Mr x.1 (zs.take len).length:=by rw[j];exact Or.inr ⟨_,_,rfl,by simp[lits]⟩
  have k:(zs.take len).length=len:=by simp;omega
  by_cases h0:cap=0
  ·have B:len=0:=by omega
   subst h0;subst B;obtain⟨g1,d⟩:=GI hb p q 1 a;exact⟨η,H,n,.su b 0 0 1,[],λ_ _ h=>h,s,X.Ext.refl _ _,g1,d,by simpa using hlen⟩
  ·have m:=c 0 (by omega);have C:=GJ m;obtain⟨blk,off,spot⟩:=a;have D:spot=none:=by simpa[Addr.add]using C
   subst D;have E:aL η (X.dX .i64 zs) (zs.map λz=>Value.int .i64 z):=by
    clear c g j w m hlen k h
    induction zs with
    | nil=>exact .nil
    | cons z zs ih=>exact .cons _ _ _ _ (.i _ _) ih
   obtain⟨η',H',v,g1,d,F,o,G⟩:=anW (z:=1) (len:=len) (cap:=cap) s (cs:=X.dX .i64 zs) (ys:=zs.map λz=>Value.int .i64 z) (blk:=blk) (off:=off) (by simp;omega) (λi y hi=>by
    have f:i<zs.length:=by have:=(cZ.1 hi).1;simpa using this
    have:=c i f;rw[Ax]at this;rw[this];simp only[List.getElem?_map,aX f,ox,kV]at hi;rw[←hi,dY,aX f];rfl) E (by rw[X.Cg];omega) hl
   refine⟨η',H',n.succ,v,zs.take len,g1,d,F,?_,G,hlen⟩;unfold X.fh;rw[k];have e:=X.ac0 .i64 zs 0 len;rw[ig,ig]at e;rw[←e];rw[kp]at o;exact o
end
end
section
def anZ{α:Type}:∀(l:List α) (i:Nat),nth l i=l[i]?:=by
 intro l
 induction l with
 | nil=>intro i;cases i<;>rfl
 | cons a l ih=>intro i;cases i with
  | zero=>rfl
  | succ i=>simp only[nth,qa];exact ih i
def an0:∀bs:List UInt8,aT bs<256 ^ bs.length:=by
 intro bs
 induction bs with
 | nil=>simp[aT]
 | cons b l ih=>
  have hb:=b.toNat_lt;simp only[aT,eh,iM];omega
def Ay(η:Env)(s:ByteArray):an η (X.st s.data.toList) (.string s):=by
 have a:s.data.toList.length=s.size:=by show s.data.toList.length=s.data.size;rw[zj]
 have h:=an.s (η:=η) s.size (aT s.data.toList) (by rw[←a];exact an0 _);rw[OW]at h;have e:X.st s.data.toList=.s s.size (aT s.data.toList):=by unfold X.st;rw[a]
 rw[e];exact h
def an1{ty:Ty}{W:World}{η:Env}{blk off room:Nat}{cs:List V}(h0:∃j y,W.cell? ⟨blk,j,none⟩=some y)(b:∀i v,cs[i]?=some v->∃y,W.cell? ⟨blk,off+i,none⟩=some y/\an η v y):
 blk<W.heap.size/\gN (WW ty) η (.r cs) ⟨blk,off,room⟩ W.heap[blk]?:=by
 obtain⟨j,f,h1⟩:=h0;unfold World.cell? at h1;simp only at h1;split at h1
 case h_2=>cases h1
 rename_i c e fr a;refine⟨(mU.1 a).1,c,e,fr,a,λi v hi=>?_⟩;obtain⟨y,h2,d⟩:=b i v hi;unfold World.cell? at h2;rw[show W.heap[(⟨blk,off+i,none⟩:Addr).block]?=some (.cells c e fr) from a]at h2;exact⟨y,by simpa using h2,d⟩
def Mt{ty:Ty}{W:World}{η:Env}{H:Hp}{n:K}(s:St ty W η H n){z len cap blk off:Nat}{cs:List V}(h0:∃j y,W.cell? ⟨blk,j,none⟩=some y)(c:∀i v,cs[i]?=some v->∃y,W.cell? ⟨blk,off+i,none⟩=some y/\an η v y)
 (hl:cs.length=cap*z)(a:len<=cap):
 ∃η' H' v,η.le η'/\St ty W η' H' n.succ/\X.Ext H.get n H'.get n.succ/\X.κ H'.get n.succ z v len (cs.take (len*z))/\an η' v (.slice (some ⟨blk,off,none⟩) len cap):=by
 obtain⟨hb,d⟩:=an1 (ty:=ty) (room:=0) h0 c;obtain⟨η',H',hle,hs,e,b⟩:=Wa s (L:=⟨blk,off,0⟩) hb d;have f:len*z<=cs.length:=by rw[hl];exact gE _ a
 refine⟨η',H',.sl n 0 len cap,hle,hs,by rw[b];exact(X.Ext.refl _ _).new _,?_,?_⟩
 ·refine X.κ.of (by rw[K.eI];omega) (row:=cs) ?_ a (by simp;omega) ?_
  ·rw[b];simp[X.iP,X.eJ,O.row]
  ·rw[X.ug (by omega),ig]
 ·have:=an.sl (η:=η') n 0 len cap ⟨blk,off,0⟩ e;simpa using this
section
variable {A:Type}{enc:TypeId×Value->A}{P:Program}{W:World}{held:Bool}{ty:Ty}{η:Env}{H:Hp}{n:K}
def bytesOf:Value->List UInt8
 | .string s=>s.data.toList
 | _=>[]
def an2(s:St ty W η H n){b:K}{Lb:Loc}{lb:List V}(hb:η b=some Lb)(G:b.num<n.num)(I:H.get b=some (.r lb)){t e:TypeId}{f0 f1:Field}{fuel:Nat}{y:Value}{x:DataW A×List MemPlace}
 (ht:P.underlying t=some (.slice e))(he:P.underlying e=some (.struct #[f0,f1]))(ce:P.cellsOf e=2)(o0:f0.offset=0)(o1:f1.offset=1)(c0:P.cellsOf f0.type=1)(c1:P.cellsOf f1.type=1)
 (u0:P.underlying f0.type=some .string)(u1:P.underlying f1.type=some .string)(h:DataW.trod enc P W 0 (λ_=>true) held fuel t [y]=some x):
 ∃η' H' n' v l,η.le η'/\St ty W η' H' n'/\X.Ext H.get n H'.get n'/\X.dV H'.get n' v l/\an η' v y/\((x.1=.nil/\l=[])\/∃sp,x.1=.slice (l.map λp=>.agg [.lit (.string p.1),.lit (.string p.2)]) sp):=by
 rcases open_slice_pairs ht he ce o0 o1 c0 c1 h with ⟨h1,h2⟩ | ⟨a,len,cap,m,T,V0,V1,D0,D1,P0,P1,h1,_,hl,hm,k,J,f⟩
 ·injection h1 with h1;subst h1;subst h2;exact⟨η,H,n,.ns,[],λ_ _ h=>h,s,X.Ext.refl _ _,X.κ.ns _ _ _,.ns,Or.inl ⟨rfl,rfl⟩⟩
 ·injection h1 with h1;subst h1;simp only[if_true]at k;subst k;have each:∀i,i<m->(∃s0,V0 i=.string s0/\D0 i=.lit (.string s0.data.toList))/\∃s1,V1 i=.string s1/\D1 i=.lit (.string s1.data.toList):=λi hi=>by
   obtain⟨_,_,g0,g1⟩:=f i hi;obtain⟨s0,k0,c,_⟩:=DataW.trod_string u0 g0;obtain⟨s1,k1,d,_⟩:=DataW.trod_string u1 g1;injection k0 with k0;injection k1 with k1;injection c with c _;injection d with d _;exact⟨⟨s0,k0,c⟩,s1,k1,d⟩
  let l:List (X.S×X.S):=(List.range m).map λi=>(bytesOf (V0 i),bytesOf (V1 i));have ll:l.length=m:=by simp[l]
  have o:∀i (hi:i<l.length),l[i]=(bytesOf (V0 i),bytesOf (V1 i)):=λi hi=>by simp[l]
  have lt:l.take len=(List.range len).map λi=>(bytesOf (V0 i),bytesOf (V1 i)):=by simp only[l];rw[←List.map_take,List.take_range,qf hl]
  have u:x.1=.slice ((l.take len).map λp=>.agg [.lit (.string p.1),.lit (.string p.2)]) ((List.range (m - len)).map λj=>.agg [D0 (len+j),D1 (len+j)]):=by
   rw[J,lt,List.map_map];show DataW.slice _ _=DataW.slice _ _;congr 1;apply List.map_congr_left;intro i hi;have L:i<m:=by have:=List.mem_range.1 hi;omega
   obtain⟨⟨s0,k0,c⟩,s1,k1,d⟩:=each i L;simp[k0,c,k1,d,bytesOf]
  by_cases h0:m=0
  ·have M:len=0:=by omega
   subst h0;subst M;obtain⟨g1,g⟩:=GI hb G I 2 a;exact⟨η,H,n,.su b 0 0 2,[],λ_ _ h=>h,s,X.Ext.refl _ _,g1,g,Or.inr ⟨_,by simpa using u⟩⟩
  ·have w:=(f 0 (by omega)).1;rw[Nat.zero_mul]at w;have B:W.cell? a=some (V0 0):=by simpa[Addr.add]using w
   have C:=GJ B;obtain⟨blk,off,spot⟩:=a;simp only at C;subst C;obtain⟨η',H',v,g1,g,N,O,Q⟩:=Mt (z:=2) (len:=len) (cap:=m) s (cs:=X.fU l) (blk:=blk) (off:=off) ⟨_,_,B⟩ (λi v hi=>by
    have R:=(cZ.1 hi).1;rw[X.IM,ll]at R;rw[←anZ]at hi;obtain⟨q,U⟩:∃q,q=i / 2:=⟨_,rfl⟩;have D:q<m:=by omega
    obtain⟨E,F,_,_⟩:=f q D;obtain⟨⟨s0,k0,_⟩,s1,k1,_⟩:=each q D;rw[Ax]at E F;by_cases hp:i % 2=0
    ·have ei:i=q*2:=by omega
     rw[ei,X.acX (by omega),o]at hi;injection hi with hi;refine⟨V0 q,by rw[ei];simpa using E,?_⟩;rw[←hi,k0];exact Ay _ _
    ·have ei:i=q*2+1:=by omega
     rw[ei,X.acY (by omega),o]at hi;injection hi with hi;refine⟨V1 q,by rw[ei];simpa using F,?_⟩;rw[←hi,k1];exact Ay _ _) (by rw[X.IM,ll]) hl
   refine⟨η',H',n.succ,v,l.take len,g1,g,N,?_,Q,Or.inr ⟨_,u⟩⟩;unfold X.dV;have e:=X.QK l 0 len;rw[Nat.zero_mul,ig,ig]at e;rw[←e,show(l.take len).length=len by simp;omega];exact O
end
end
section
def FY{ts:List X.Nd}{mm:List (V×V)}(hm:mm.length=ts.length){k:Nat}(a:k<=ts.length):X.bJ (ts.take k) (mm.take k)=(X.bJ ts mm).take (k*5):=by
 have h1:(mm.take k).length=(ts.take k).length:=by simp;omega
 have h2:X.bJ ts mm=X.bJ (ts.take k) (mm.take k)++X.bJ (ts.drop k) (mm.drop k):=by rw[←X.zR h1,Et,Et]
 have b:=X.pj h1;have c:(X.bJ (ts.take k) (mm.take k)).length=k*5:=by rw[b,ov,qf a]
 rw[h2,List.take_append_of_le_length (by omega)];exact(ot (by omega)).symm
section
variable {A:Type}{enc:TypeId×Value->A}{P:Program}{W:World}{held:Bool}{ty:Ty}{η:Env}{H:Hp}{n:K}
def ze(d:DataW A)(x:X.Nd):Prop:=
 ∃dv a,d=.agg [.lit (.int .i64 x.op),.lit (.string x.sort),.lit (.string x.name),dv,a]/\((dv=.nil/\x.vars=[])\/∃sp,dv=.slice (x.vars.map λp=>.agg [.lit (.string p.1),.lit (.string p.2)]) sp)/\Mr a x.kids.length
structure GK(P:Program)(t e:TypeId)(f0 f1 f2 f3 f4:Field)(tp:TypeId)(g0 g1:Field)(ti:TypeId):Prop where
 ht:P.underlying t=some (.slice e)
 he:P.underlying e=some (.struct #[f0,f1,f2,f3,f4])
 ce:P.cellsOf e=5
 o0:f0.offset=0
 o1:f1.offset=1
 o2:f2.offset=2
 o3:f3.offset=3
 o4:f4.offset=4
 c0:P.cellsOf f0.type=1
 c1:P.cellsOf f1.type=1
 c2:P.cellsOf f2.type=1
 c3:P.cellsOf f3.type=1
 c4:P.cellsOf f4.type=1
 u0:P.underlying f0.type=some (.int .i64)
 u1:P.underlying f1.type=some .string
 u2:P.underlying f2.type=some .string
 u3:P.underlying f3.type=some (.slice tp)
 u4:P.underlying f4.type=some (.slice ti)
 ui:P.underlying ti=some (.int .i64)
 ci:P.cellsOf ti=1
 up:P.underlying tp=some (.struct #[g0,g1])
 cp:P.cellsOf tp=2
 po0:g0.offset=0
 po1:g1.offset=1
 pc0:P.cellsOf g0.type=1
 pc1:P.cellsOf g1.type=1
 pu0:P.underlying g0.type=some .string
 pu1:P.underlying g1.type=some .string
variable {t e tp ti:TypeId}{f0 f1 f2 f3 f4 g0 g1:Field}
def an9(T:GK P t e f0 f1 f2 f3 f4 tp g0 g1 ti)(s:St ty W η H n){b:K}{Lb:Loc}{lb:List V}(hb:η b=some Lb)(a:b.num<n.num)(d:H.get b=some (.r lb)){fuel:Nat}{cs:List Value}{x:DataW A×List MemPlace}
 (hl:cs.length=5)(h:DataW.trod enc P W 0 (λ_=>true) held fuel e cs=some x):
 ∃η' H' n' nd vv kv,η.le η'/\St ty W η' H' n'/\X.Ext H.get n H'.get n'/\X.dV H'.get n' vv nd.vars/\X.fh H'.get n' .i64 kv nd.kids/\aL η' (X.cB nd vv kv) cs/\ze x.1 nd:=by
 obtain⟨xs,k,I,p,_,q,hf⟩:=DataW.trod_struct T.he h
 match xs,q,cs,hl with
 | [J,L,M,y3,u],_,[v0,v1,v2,N,v4],_=>
  have f:=hf 0 f0 rfl;have g:=hf 1 f1 rfl;have j:=hf 2 f2 rfl;have l:=hf 3 f3 rfl;have m:=hf 4 f4 rfl;simp[T.o0,T.c0]at f;simp[T.o1,T.c1]at g;simp[T.o2,T.c2]at j;simp[T.o3,T.c3]at l;simp[T.o4,T.c4]at m;obtain⟨op,k0,v,_⟩:=DataW.trod_int T.u0 f;obtain⟨s1,k1,w,_⟩:=DataW.trod_string T.u1 g;obtain⟨y,k2,z,_⟩:=DataW.trod_string T.u2 j;obtain⟨η1,H1,n1,vv,vars,o,B,c,C,D,E⟩:=an2 s hb a d T.u3 T.up T.cp T.po0 T.po1 T.pc0 T.pc1 T.pu0 T.pu1 l;obtain⟨F,H2,G,kv,kids,b1,b2,b3,b4,b5,b6⟩:=anX B (o _ _ hb) (eE a c.1) (by have:=c.2 b a;rw[this];exact d) T.u4 T.ui T.ci m;injection k0 with k0;injection k1 with k1;injection k2 with k2;subst k0;subst k1;subst k2;refine⟨F,H2,G,⟨op,s1.data.toList,y.data.toList,vars,kids⟩,vv,kv,o.trans b1,b2,c.trans b3,C.ext b3,b4,?_,?_⟩
  ·exact .cons _ _ _ _ (.i _ _) (.cons _ _ _ _ (Ay _ _) (.cons _ _ _ _ (Ay _ _) (.cons _ _ _ _ (D.mono b1) (.cons _ _ _ _ b5 .nil))))
  ·refine⟨y3.1,u.1,?_,E,b6⟩;rw[p];simp[v,w,z]
def aoa(T:GK P t e f0 f1 f2 f3 f4 tp g0 g1 ti)(s:St ty W η H n){b:K}{Lb:Loc}{lb:List V}(hb:η b=some Lb)(g:b.num<n.num)(u:H.get b=some (.r lb)){fuel blk off m:Nat}{D:Nat->DataW A}{Pl:Nat->List MemPlace}
 (w:∀i,i<m->∃cs,cs.length=5/\(∀j,j<5->∃y,cs[j]?=some y/\W.cell? ⟨blk,off+(i*5+j),none⟩=some y)/\DataW.trod enc P W 0 (λ_=>true) held fuel e cs=some (D i,Pl i)):
 ∀k,k<=m->∃η' H' n' ts mm,η.le η'/\St ty W η' H' n'/\X.Ext H.get n H'.get n'/\ts.length=k/\mm.length=k/\(∀j (h1:j<ts.length) (h2:j<mm.length),X.dV H'.get n' mm[j].1 ts[j].vars/\X.fh H'.get n' .i64 mm[j].2 ts[j].kids/\ze (D j) ts[j])/\(∀i v,(X.bJ ts mm)[i]?=some v->∃y,W.cell? ⟨blk,off+i,none⟩=some y/\an η' v y):=by
 intro k
 induction k with
 | zero=>intro _;exact⟨η,H,n,[],[],λ_ _ h=>h,s,X.Ext.refl _ _,rfl,rfl,λj h=>by simp at h,λi v h=>by simp[X.bJ]at h⟩
 | succ k ih=>
  intro Q;obtain⟨η1,H1,n1,ts,mm,o,x,d,c,p,B,C⟩:=ih (by omega);obtain⟨cs,c1,c2,c3⟩:=w k (by omega);obtain⟨f,H2,E,nd,vv,kv,b1,b2,b3,b4,b5,b6,b7⟩:=an9 T x (o _ _ hb) (eE g d.1) (by rw[d.2 b g];exact u) c1 c3;have q:mm.length=ts.length:=by omega
  refine⟨f,H2,E,ts++[nd],mm++[(vv,kv)],o.trans b1,b2,d.trans b3,by simp[c],by simp[p],λj h1 h2=>?_,λi v hi=>?_⟩
  ·by_cases hj:j<k
   ·obtain⟨F,G,I⟩:=B j (by omega) (by omega);rw[List.getElem_append_left (by omega),List.getElem_append_left (by omega)];exact⟨F.ext b3,G.ext b3,I⟩
   ·have J:j=k:=by simp[c]at h1;omega
    subst J;rw[List.getElem_append_right (by omega),List.getElem_append_right (by omega)];simp only[c,p,kY,zf];exact⟨b4,b5,b7⟩
  ·rw[X.zR q]at hi;have hlen:=X.pj q;by_cases R:i<k*5
   ·rw[oT (by omega)]at hi;obtain⟨y,h1,h2⟩:=C i v hi;exact⟨y,h1,h2.mono b1⟩
   ·rw[qc (by omega)]at hi;rw[hlen,c]at hi;have L:X.bJ [nd] [(vv,kv)]=X.cB nd vv kv:=by simp[X.bJ]
    rw[L]at hi;have M:i - k*5<5:=by have:=(cZ.1 hi).1;simpa[X.cB]using this
    obtain⟨y,h1,h2⟩:=c2 (i - k*5) M;refine⟨y,by rw[show k*5+(i - k*5)=i by omega]at h2;exact h2,?_⟩;have N:∀{l:List V} {ys:List Value},aL f l ys->∀{i:Nat} {v:V} {y:Value},l[i]?=some v->ys[i]?=some y->an f v y:=by
     intro l
     induction l with
     | nil=>intro ys _ i v y h;simp at h
     | cons a l ih=>
      intro ys O i v y h h';cases O with
      | cons _ z _ ys h1 h2=>
       cases i with
       | zero=>simp at h h';subst h;subst h';exact h1
       | succ i=>exact ih h2 (i:=i) (by simpa using h) (by simpa using h')
    exact N b6 hi h1
def aob(T:GK P t e f0 f1 f2 f3 f4 tp g0 g1 ti)(s:St ty W η H n){b:K}{Lb:Loc}{lb:List V}(hb:η b=some Lb)(f:b.num<n.num)(g:H.get b=some (.r lb)){fuel:Nat}{y:Value}{x:DataW A×List MemPlace}
 (h:DataW.trod enc P W 0 (λ_=>true) held fuel t [y]=some x):
 ∃η' H' n' v ts,η.le η'/\St ty W η' H' n'/\X.Ext H.get n H'.get n'/\X.bK H'.get n' v ts/\an η' v y/\((x.1=.nil/\ts=[])\/∃es sp,x.1=.slice es sp/\es.length=ts.length/\∀j (h1:j<ts.length) (h2:j<es.length),ze es[j] ts[j]):=by
 rcases open_slice T.ht h with ⟨h1,h2⟩ | ⟨a,len,cap,m,B,D,Pl,h1,_,hl,hm,k,C,c⟩
 ·injection h1 with h1;subst h1;subst h2;exact⟨η,H,n,.ns,[],λ_ _ h=>h,s,X.Ext.refl _ _,⟨[],rfl,X.κ.ns _ _ _,λi hi=>by simp at hi⟩,.ns,Or.inl ⟨rfl,rfl⟩⟩
 ·injection h1 with h1;subst h1;simp only[if_true]at k;subst k;rw[T.ce]at c;have l:∀ts:List X.Nd,ts.length=len->(∀j (h1:j<ts.length),ze (D j) ts[j])->((x.1=.nil/\ts=[])\/∃es sp,x.1=.slice es sp/\es.length=ts.length/\∀j (h1:j<ts.length) (h2:j<es.length),ze es[j] ts[j]):=λts E F=>by
   refine Or.inr ⟨_,_,by rw[C],by simp[E],λj h1 h2=>?_⟩;simpa using F j h1
  by_cases h0:m=0
  ·have G:len=0:=by omega
   subst h0;subst G;obtain⟨I,J⟩:=GI hb f g 5 a;exact⟨η,H,n,.su b 0 0 5,[],λ_ _ h=>h,s,X.Ext.refl _ _,⟨[],rfl,I,λi hi=>by simp at hi⟩,J,l [] rfl (λj h1=>by simp at h1)⟩
  ·obtain⟨L,M,q2⟩:=c 0 (by omega);obtain⟨_,N,O⟩:=World.cells?_some M;have Q:=O 0 (by omega);have o:W.cell? a=some (L[0]'(by omega)):=by simpa[Addr.add,N]using Q
   have p:=GJ o;obtain⟨blk,off,spot⟩:=a;simp only at p;subst p;obtain⟨η1,H1,n1,ts,mm,R,S,U,a4,a5,q,Y⟩:=aoa T s hb f g (fuel:=B) (blk:=blk) (off:=off) (m:=m) (D:=D) (Pl:=Pl) (λi hi=>by obtain⟨cs,r1,r2⟩:=c i hi;obtain⟨_,d,Z⟩:=World.cells?_some r1;refine⟨cs,d,λj hj=>?_,r2⟩;have u:=Z j hj;rw[Ax,Ax]at u;refine⟨cs[j]'(by omega),by simp[d,hj],?_⟩;rw[show off+(i*5+j)=off+i*5+j by omega,u];simp[d,hj]) m (ξ _)
   have w:mm.length=ts.length:=by omega
   obtain⟨η2,H2,v,b1,b2,b3,b4,b5⟩:=Mt (z:=5) (len:=len) (cap:=m) S (cs:=X.bJ ts mm) (blk:=blk) (off:=off) ⟨_,_,o⟩ Y (by rw[X.pj w];omega) hl;refine⟨η2,H2,n1.succ,v,ts.take len,R.trans b1,b2,U.trans b3,?_,b5,l _ (by simp;omega) (λj h1=>?_)⟩
   ·have pU:(ts.take len).length=len:=by simp;omega
    refine⟨mm.take len,by simp;omega,?_,λi hi=>?_⟩
    ·rw[FY w (by omega),pU];exact b4
    ·obtain⟨p1,p2,_⟩:=q i (by simp at hi;omega) (by simp at hi;omega);simp only[List.getElem_take];exact⟨p1.ext b3,p2.ext b3⟩
   ·have hj:j<ts.length:=by simp at h1;omega
    have:=(q j hj (by omega)).2.2;simpa using this
end
end
section
section
variable {A:Type}{enc:TypeId×Value->A}{P:Program}{W:World}{sp:Nat->Bool}{held:Bool}{η:Env}
def Mv:DataW A->V
 | .lit (.int k n)=>.i k n
 | .lit (.string bs)=>X.st bs
 | _=>.q
def wG(enc:TypeId×Value->A)(P:Program)(W:World)(sp:Nat->Bool)(held:Bool)(η:Env)(dv:DataW A->V)(t:TypeId):Prop:=
 ∀fuel y x,DataW.trod enc P W 0 sp held fuel t [y]=some x->an η (dv x.1) y
def GL{t:TypeId}{k:IntKind}{dv:DataW A->V}(u:P.underlying t=some (.int k))(h:∀n,dv (.lit (.int k n))=.i k n):wG enc P W sp held η dv t:=λfuel y x a=>by obtain⟨n,h1,h2,_⟩:=DataW.trod_int u a;injection h1 with h1;subst h1;rw[h2];show an η (dv (.lit (.int k n))) _;rw[h];exact .i _ _
def yH{t:TypeId}{dv:DataW A->V}(u:P.underlying t=some .string)(h:∀bs,dv (.lit (.string bs))=X.st bs):wG enc P W sp held η dv t:=λfuel y x a=>by obtain⟨s,h1,h2,_⟩:=DataW.trod_string u a;injection h1 with h1;subst h1;rw[h2];show an η (dv (.lit (.string _))) _;rw[h];exact Ay _ _
def GM(enc:TypeId×Value->A)(P:Program)(W:World)(sp:Nat->Bool)(held:Bool)(η:Env)(dv:DataW A->List V)(t:TypeId)(sz:Nat):Prop:=
 ∀fuel cs x,cs.length=sz->DataW.trod enc P W 0 sp held fuel t cs=some x->aL η (dv x.1) cs
def GN{dv:DataW A->V}{t:TypeId}(h:wG enc P W sp held η dv t):GM enc P W sp held η (λd=>[dv d]) t 1:=λfuel cs x hl a=>by
 match cs,hl with
 | [y],_=>exact .cons _ _ _ _ (h fuel y x a) .nil
def aoc(dv:DataW A->V):DataW A->List V
 | .agg [a,b,c,d]=>[dv a,dv b,dv c,dv d]
 | _=>[]
def Wc{dv:DataW A->V}{t:TypeId}{f0 f1 f2 f3:Field}(ht:P.underlying t=some (.struct #[f0,f1,f2,f3]))(o0:f0.offset=0)(o1:f1.offset=1)(o2:f2.offset=2)(o3:f3.offset=3)
 (c0:P.cellsOf f0.type=1)(c1:P.cellsOf f1.type=1)(c2:P.cellsOf f2.type=1)(c3:P.cellsOf f3.type=1)
 (s0:wG enc P W sp held η dv f0.type)(s1:wG enc P W sp held η dv f1.type)(e:wG enc P W sp held η dv f2.type)(f:wG enc P W sp held η dv f3.type):GM enc P W sp held η (aoc dv) t 4:=λfuel cs x hl g=>by
 obtain⟨xs,k,j,h,_,i,hf⟩:=DataW.trod_struct ht g
 match xs,i,cs,hl with
 | [l,m,n,y3],_,[v0,v1,v2,o],_=>
  have a:=hf 0 f0 rfl;have b:=hf 1 f1 rfl;have c:=hf 2 f2 rfl;have d:=hf 3 f3 rfl;simp[o0,c0]at a;simp[o1,c1]at b;simp[o2,c2]at c;simp[o3,c3]at d;rw[h];exact .cons _ _ _ _ (s0 _ _ _ a) (.cons _ _ _ _ (s1 _ _ _ b) (.cons _ _ _ _ (e _ _ _ c) (.cons _ _ _ _ (f _ _ _ d) .nil)))
def aod{η:Env}:∀{l:List V} {ys:List Value},aL η l ys->∀{i:Nat} {v:V},l[i]?=some v->∃y,ys[i]?=some y/\an η v y:=by
 intro l
 induction l with
 | nil=>intro ys _ i v h;simp at h
 | cons a l ih=>
  intro ys b i v h;cases b with
  | cons _ y _ ys h1 h2=>
   cases i with
   | zero=>simp at h;subst h;exact⟨y,rfl,h1⟩
   | succ i=>simpa using ih h2 (i:=i) (by simpa using h)
def aoe{dv:DataW A->List V}{t e:TypeId}{m sz fuel:Nat}{cs:List Value}{d:DataW A}{ps:List MemPlace}{ds:List (DataW A)}{l:List V}(b:0<sz)(ht:P.underlying t=some (.array m e))(s:P.cellsOf e=sz)(u:P.cellsOf t=m*sz)
 (he:GM enc P W sp held η dv e sz)(h:DataW.trod enc P W 0 sp held fuel t cs=some (d,ps))(c:d=.agg ds)(hl:∀q,q<m->(l.drop (q*sz)).take sz=dv (ds.getD q .nil))(w:l.length=m*sz):
 ∀(i:Nat) (v:V),l[i]?=some v->∃y,cs[i]?=some y/\an η v y:=by
 intro i v hi;have x:i<m*sz:=by rw[←w];exact(cZ.1 hi).1
 have a:i / sz<m:=(Bt b).2 x;have f:i % sz<sz:=oU _ b;have g:i / sz*sz+i % sz=i:=by rw[eR];exact zh i sz
 obtain⟨xs,z,_,B,j,G,k⟩:=DataW.trod_array ht h;rw[s]at k;rw[u]at j;injection B with C _;rw[C]at c;injection c with D;generalize i / sz=q at*;generalize i % sz=r at*;have n:q<xs.length:=by omega
 have o:=k q a;rw[aX n]at o;have H:q*sz+sz<=m*sz:=by rw[←tQ];exact gE _ a
 have p:=he z _ _ (by rw[ov,sM,j];omega) o;have E:ds.getD q .nil=xs[q].1:=by rw[←D,dY,List.getElem?_map,aX n];rfl
 rw[←E,←hl q a]at p;have F:((l.drop (q*sz)).take sz)[r]?=some v:=by rw[List.getElem?_take_of_lt f,vP,g];exact hi
 obtain⟨y,h1,h2⟩:=aod p F;rw[List.getElem?_take_of_lt f,vP,g]at h1;exact⟨y,h1,h2⟩
end
end
section
section
variable {A α:Type}{enc:TypeId×Value->A}{P:Program}{W:World}{held:Bool}{ty:Ty}
def Hy(enc:TypeId×Value->A)(P:Program)(W:World)(held:Bool)(ty:Ty)(e:TypeId)(R:X.Hf->K->V->α->Prop)(D:DataW A->α->Prop):Prop:=
 ∀{η:Env} {H:Hp} {n:K} (s:St ty W η H n) {b:K} {Lb:Loc} {lb:List V} (hb:η b=some Lb) (c:b.num<n.num) (d:H.get b=some (.r lb)) {fuel:Nat} {y:Value} {x:DataW A×List MemPlace},DataW.trod enc P W 0 (λ_=>true) held fuel e [y]=some x->∃η' H' n' v a,η.le η'/\St ty W η' H' n'/\X.Ext H.get n H'.get n'/\R H'.get n' v a/\an η' v y/\D x.1 a
def LD(D:DataW A->α->Prop)(d:DataW A)(l:List α):Prop:=(d=.nil/\l=[])\/∃es sp,d=.slice es sp/\es.length=l.length/\∀j (h1:j<l.length) (h2:j<es.length),D es[j] l[j]
variable {R:X.Hf->K->V->α->Prop}{D:DataW A->α->Prop}{t e:TypeId}
end
end
section
def aoh{η:Env}:∀{l:List V} {ys:List Value},aL η l ys->∀{i:Nat} {v:V} {y:Value},l[i]?=some v->ys[i]?=some y->an η v y:=by
 intro l
 induction l with
 | nil=>intro ys _ i v y h;simp at h
 | cons a l ih=>
  intro ys b i v y h h';cases b with
  | cons _ z _ ys h1 h2=>
   cases i with
   | zero=>simp at h h';subst h;subst h';exact h1
   | succ i=>exact ih h2 (i:=i) (by simpa using h) (by simpa using h')
section
variable {A α:Type}{enc:TypeId×Value->A}{P:Program}{W:World}{held:Bool}{ty:Ty}
def ZI(enc:TypeId×Value->A)(P:Program)(W:World)(held:Bool)(ty:Ty)(e:TypeId)(z:Nat)(R:X.Hf->K->List V->α->Prop)(D:DataW A->α->Prop):Prop:=
 ∀{η:Env} {H:Hp} {n:K} (s:St ty W η H n) {b:K} {Lb:Loc} {lb:List V} (hb:η b=some Lb) (c:b.num<n.num) (d:H.get b=some (.r lb)) {fuel:Nat} {cs:List Value} {x:DataW A×List MemPlace},cs.length=z->DataW.trod enc P W 0 (λ_=>true) held fuel e cs=some x->∃η' H' n' vs a,η.le η'/\St ty W η' H' n'/\X.Ext H.get n H'.get n'/\R H'.get n' vs a/\vs.length=z/\aL η' vs cs/\D x.1 a
variable {R:X.Hf->K->List V->α->Prop}{D:DataW A->α->Prop}{t e:TypeId}{z:Nat}
def aoi(hR:∀{h n h' n' v a},R h n v a->X.Ext h n h' n'->R h' n' v a)(r:ZI enc P W held ty e z R D){η:Env}{H:Hp}{n:K}(s:St ty W η H n){b:K}{Lb:Loc}{lb:List V}(hb:η b=some Lb)(f:b.num<n.num)(q:H.get b=some (.r lb)){fuel blk off m:Nat}{E:Nat->DataW A}{Pl:Nat->List MemPlace}
 (x:∀i,i<m->∃cs,cs.length=z/\(∀j,j<z->∃y,cs[j]?=some y/\W.cell? ⟨blk,off+(i*z+j),none⟩=some y)/\DataW.trod enc P W 0 (λ_=>true) held fuel e cs=some (E i,Pl i)):
 ∀k,k<=m->∃η' H' n',∃(l:List α) (rs:List (List V)),η.le η'/\St ty W η' H' n'/\X.Ext H.get n H'.get n'/\l.length=k/\rs.length=k/\(∀u∈rs,u.length=z)/\(∀j (h1:j<rs.length) (h2:j<l.length),R H'.get n' rs[j] l[j]/\D (E j) l[j])/\rs.flatten.length=k*z/\(∀i v,rs.flatten[i]?=some v->∃y,W.cell? ⟨blk,off+i,none⟩=some y/\an η' v y):=by
 intro k
 induction k with
 | zero=>intro _;exact⟨η,H,n,[],[],λ_ _ h=>h,s,X.Ext.refl _ _,rfl,rfl,λu h=>by simp at h,λj h=>by simp at h,by simp,λi v h=>by simp at h⟩
 | succ k ih=>
  intro S;obtain⟨η1,H1,n1,l,rs,g,B,c,o,d,C,F,p,G⟩:=ih (by omega);obtain⟨cs,c1,c2,c3⟩:=x k (by omega);obtain⟨I,H2,J,w,a,b1,b2,b3,b4,b7,b5,b6⟩:=r B (g _ _ hb) (eE f c.1) (by rw[c.2 b f];exact q) c1 c3;refine⟨I,H2,J,l++[a],rs++[w],g.trans b1,b2,c.trans b3,by simp[o],by simp[d],λu L=>?_,λj h1 h2=>?_,?_,λi v hi=>?_⟩
  ·rcases eG.1 L with h | h
   ·exact C u h
   ·rw[gF]at h;rw[h];exact b7
  ·by_cases hj:j<k
   ·obtain⟨M,N⟩:=F j (by omega) (by omega);rw[List.getElem_append_left (by omega),List.getElem_append_left (by omega)];exact⟨hR M b3,N⟩
   ·have O:j=k:=by simp[d]at h1;omega
    subst O;rw[List.getElem_append_right (by omega),List.getElem_append_right (by omega)];simp only[o,d,kY,zf];exact⟨b4,b6⟩
  ·rw[List.flatten_append,jz,p];simp[b7,ie]
  ·rw[List.flatten_append]at hi;by_cases T:i<k*z
   ·rw[oT (by omega)]at hi;obtain⟨y,h1,h2⟩:=G i v hi;exact⟨y,h1,h2.mono b1⟩
   ·rw[qc (by omega),p]at hi;simp only[List.flatten_cons,List.flatten_nil,List.append_nil]at hi;have Q:i - k*z<z:=by
     have:=(cZ.1 hi).1;omega
    obtain⟨y,h1,h2⟩:=c2 (i - k*z) Q;exact⟨y,by rw[show k*z+(i - k*z)=i by omega]at h2;exact h2,aoh b5 hi h1⟩
def Wd{z:Nat}:∀{rs:List (List V)} (_:∀u∈rs,u.length=z) (k:Nat),(rs.flatten).take (k*z)=(rs.take k).flatten
 | [],_,k=>by simp
 | u::rs,h,0=>by simp
 | u::rs,h,k+1=>by have a:=h u (by simp);rw[j7,List.flatten_cons,List.flatten_cons,←Wd (rs:=rs) (λv hv=>h v (by simp[hv])) k,ie,Nat.one_mul,oW,←a];rw[show(u++rs.flatten).take (u.length+k*u.length)=u++rs.flatten.take (k*u.length) by rw[List.take_append,ot (Nat.le_add_right _ _)];simp]
def aoj(f:0<z)(hR:∀{h n h' n' v a},R h n v a->X.Ext h n h' n'->R h' n' v a)(ht:P.underlying t=some (.slice e))(C:P.cellsOf e=z)(r:ZI enc P W held ty e z R D):
 Hy enc P W held ty t (λh n v l=>∃rs:List (List V),rs.length=l.length/\X.κ h n z v l.length rs.flatten/\∀i (h1:i<rs.length) (h2:i<l.length),R h n rs[i] l[i]) (LD D):=by
 intro η H n s b Lb lb hb g k fuel y x h;rcases open_slice ht h with ⟨h1,h2⟩ | ⟨a,len,cap,m,F,E,Pl,h1,_,hl,hm,o,G,c⟩
 ·injection h1 with h1;subst h1;exact⟨η,H,n,.ns,[],λ_ _ h=>h,s,X.Ext.refl _ _,⟨[],rfl,X.κ.ns _ _ _,λi hi=>by simp at hi⟩,.ns,Or.inl ⟨by rw[h2],rfl⟩⟩
 ·injection h1 with h1;subst h1;simp only[if_true]at o;subst o;rw[C]at c;have p:∀l:List α,l.length=len->(∀j (h1:j<l.length),D (E j) l[j])->LD D x.1 l:=λl I J=>by
   refine Or.inr ⟨_,_,by rw[G],by simp[I],λj h1 h2=>?_⟩;simpa using J j h1
  by_cases h0:m=0
  ·have L:len=0:=by omega
   subst h0;subst L;obtain⟨M,N⟩:=GI hb g k z a;exact⟨η,H,n,.su b 0 0 z,[],λ_ _ h=>h,s,X.Ext.refl _ _,⟨[],rfl,M,λi hi=>by simp at hi⟩,N,p [] rfl (λj h1=>by simp at h1)⟩
  ·obtain⟨O,Q,q2⟩:=c 0 (by omega);obtain⟨_,S,T⟩:=World.cells?_some Q;have U:=T 0 f;have q:W.cell? a=some (O[0]'(by omega)):=by simpa[Addr.add,S,f]using U
   have u:=GJ q;obtain⟨blk,off,spot⟩:=a;simp only at u;subst u;obtain⟨η1,H1,n1,l,rs,Y,Z,a3,a4,a5,a9,w,a8,a7⟩:=aoi (R:=R) (D:=D) hR @r s hb g k (fuel:=F) (blk:=blk) (off:=off) (m:=m) (E:=E) (Pl:=Pl) (λi hi=>by obtain⟨cs,r1,r2⟩:=c i hi;obtain⟨_,d,r4⟩:=World.cells?_some r1;refine⟨cs,d,λj hj=>?_,r2⟩;have B:=r4 j hj;rw[Ax,Ax]at B;refine⟨cs[j]'(by omega),by simp[d,hj],?_⟩;rw[show off+(i*z+j)=off+i*z+j by omega,B];simp[d,hj]) m (ξ _)
   obtain⟨η2,H2,v,b1,b2,b3,b4,b5⟩:=Mt (z:=z) (len:=len) (cap:=m) Z (cs:=rs.flatten) (blk:=blk) (off:=off) ⟨_,_,q⟩ a7 a8 hl;refine⟨η2,H2,n1.succ,v,l.take len,Y.trans b1,b2,a3.trans b3,?_,b5,p _ (by simp;omega) (λj h1=>?_)⟩
   ·have pU:(l.take len).length=len:=by simp;omega
    refine⟨rs.take len,by simp;omega,by rw[pU,←Wd a9];exact b4,λi h1 h2=>?_⟩;simp only[List.getElem_take];exact hR (w i (by simp at h1;omega) (by simp at h2;omega)).1 b3
   ·have hj:j<l.length:=by simp at h1;omega
    have:=(w j (by omega) hj).2;simpa using this
def OD(D:DataW A->List X.Nd->Prop)(d:DataW A)(x:X.Bi):Prop:=∃a,d=.agg [.lit (.string x.1),a]/\D a x.2
def ZJ(h:X.Hf)(n:K)(vs:List V)(x:X.Bi):Prop:=∃m,vs=[X.st x.1,m]/\X.bK h n m x.2
def aok{f0 f1:Field}{D:DataW A->List X.Nd->Prop}(he:P.underlying e=some (.struct #[f0,f1]))(o0:f0.offset=0)(o1:f1.offset=1)(c0:P.cellsOf f0.type=1)(c1:P.cellsOf f1.type=1)(u0:P.underlying f0.type=some .string)
 (r:Hy enc P W held ty f1.type X.bK D):ZI enc P W held ty e 2 ZJ (OD D):=by
 intro η H n s b Lb lb hb d f fuel cs x hl h;obtain⟨xs,k,y,g,_,i,hf⟩:=DataW.trod_struct he h
 match xs,i,cs,hl with
 | [B,j],_,[v0,v1],_=>
  have a:=hf 0 f0 rfl;have c:=hf 1 f1 rfl;simp[o0,c0]at a;simp[o1,c1]at c;obtain⟨s1,k1,l,_⟩:=DataW.trod_string u0 a;obtain⟨η1,H1,n1,v,ts,m,o,p,q,u,w⟩:=r s hb d f c;injection k1 with k1;subst k1;refine⟨η1,H1,n1,[X.st s1.data.toList,v],(s1.data.toList,ts),m,o,p,⟨v,rfl,q⟩,rfl,.cons _ _ _ _ (Ay _ _) (.cons _ _ _ _ u .nil),j.1,?_,w⟩;rw[g];simp[l]
def We{h:X.Hf}{n:K}:∀{l:List X.Bi} {rs:List (List V)},rs.length=l.length->(∀i (h1:i<rs.length) (h2:i<l.length),ZJ h n rs[i] l[i])->∃ms:List V,∃hm:ms.length=l.length,X.jS l ms=rs.flatten/\∀i (hi:i<l.length),X.bK h n (ms[i]'(by omega)) l[i].2
 | [],[],_,_=>⟨[],rfl,rfl,λi hi=>by simp at hi⟩
 | x::l,u::rs,hl,a=>by
  obtain⟨m,h1,h2⟩:=a 0 (by simp) (by simp);obtain⟨ms,hm,b,c⟩:=We (l:=l) (rs:=rs) (by simpa using hl) λi g1 d=>a (i+1) (by simpa using g1) (by simpa using d);refine⟨m::ms,by simp[hm],?_,λi hi=>?_⟩
  ·simp only[X.jS,List.flatten_cons,b];rw[show u=_ from h1];rfl
  ·cases i with
   | zero=>exact h2
   | succ i=>exact c i (by simpa using hi)
def aol{f0 f1:Field}{D:DataW A->List X.Nd->Prop}(ht:P.underlying t=some (.slice e))(a:P.cellsOf e=2)(he:P.underlying e=some (.struct #[f0,f1]))(o0:f0.offset=0)(o1:f1.offset=1)(c0:P.cellsOf f0.type=1)(c1:P.cellsOf f1.type=1)(u0:P.underlying f0.type=some .string)
 (r:Hy enc P W held ty f1.type X.bK D):Hy enc P W held ty t X.fL (LD (OD D)):=by
 intro η H n s b Lb lb hb c d fuel y x h;obtain⟨η',H',n',v,l,f,g,i,⟨rs,j,k,o⟩,p,q⟩:=aoj (R:=ZJ) (by omega) (λ⟨m,g1,u⟩ e=>⟨m,g1,u.ext e⟩) ht a (aok he o0 o1 c0 c1 u0 @r) s hb c d h;obtain⟨ms,hm,w,B⟩:=We j o;exact⟨η',H',n',v,l,f,g,i,⟨ms,hm,by rw[w];exact k,B⟩,p,q⟩
end
end
end Go.Ev
