/- A part of the proof. -/
import Derived.Deep.SlicePairs
import Derived.ChangeSlices
import Derived.OpenShut
import Derived.Test.YtpdbepbhlalldaaGreatDoorF
import Derived.Test.YtpdbepbhlalldaaGreatDoorI
import Derived.Test.YtpdbepbhlalldaaGreatDoorW
set_option linter.all false
namespace Go.Ev
open Go
structure St(ty:Ty)(W:World)(η:Env)(H:Hp)(n:K):Prop where
 rep:aV (WW ty) η H n W
 ro:∀k o,H.get k=some o->∃l,o=.r l
def TV{ty:Ty}{W:World}{η:Env}{H:Hp}{n:K}(s:St ty W η H n){l:List V}{L:Loc}(hb:L.blk<W.heap.size)(d:fR (WW ty) η (.r l) L W.heap[L.blk]?):
 ∃η' H',η.le η'/\St ty W η' H' n.succ/\η' n=some L/\H'.get=X.hp H.get n (some (.r l)):=by
 have f:η n=none:=s.rep.free n (φ _);let η':Env:=λk=>if k=n then some L else η k
 have hle:η.le η':=λk M h=>by
  show(if k=n then some L else η k)=some M
  by_cases a:k=n
  ·rw[a,f]at h;cases h
  ·rw[Θ a];exact h
 have c:η' n=some L:=by show(if n=n then some L else η n)=_;rw[ao rfl]
 have b:(H.put (some (.r l)) n).get=X.hp H.get n (some (.r l)):=X.hY H n _;refine⟨η',H.put (some (.r l)) n,hle,⟨⟨λk o a=>?_,λk k' o o' M M' i a hm=>?_,λk a=>?_⟩,λk o a=>?_⟩,c,b⟩
 ·rw[b]at a;by_cases e:k=n
  ·subst e;rw[X.eQ]at a;injection a with a;subst a;exact⟨L,c,hb,d.mono hle⟩
  ·rw[X.mL _ _ e]at a;obtain⟨M,h1,h2,g⟩:=s.rep.obj k o a;exact⟨M,hle _ _ h1,h2,g.mono hle⟩
 ·exfalso;rw[b]at a;by_cases e:k=n
  ·subst e;rw[X.eQ]at a;injection a with a;subst a;cases hm
  ·rw[X.mL _ _ e]at a;obtain⟨l',rfl⟩:=s.ro k o a;cases hm
 ·have h1:n.num<k.num:=by rw[K.eF]at a;omega
  show(if k=n then some L else η k)=none
  rw[Θ (λe=>by rw[e]at h1;omega)];exact s.rep.free k (by omega)
 ·rw[b]at a;by_cases e:k=n
  ·subst e;rw[X.eQ]at a;injection a with a;exact⟨l,a.symm⟩
  ·rw[X.mL _ _ e]at a;exact s.ro k o a
def alm{ty:Ty}{W:World}{η:Env}{blk off room:Nat}{l:List V}{ys:List Value}(h0:0<ys.length)(f:∀i y,ys[i]?=some y->W.cell? ⟨blk,off+i,none⟩=some y)(hv:aN η l ys):
 blk<W.heap.size/\fR (WW ty) η (.r l) ⟨blk,off,room⟩ W.heap[blk]?:=by
 obtain⟨g,j⟩:∃y,ys[0]?=some y:=⟨ys[0],by simp[h0]⟩;have h1:=f 0 g j;unfold World.cell? at h1;simp only at h1;split at h1
 case h_2=>cases h1
 rename_i c e fr b;refine⟨(mB.1 b).1,c,e,fr,b,λi v hi=>?_⟩;have k:∀{l:List V} {ys:List Value},aN η l ys->∀{i:Nat} {v:V},l[i]?=some v->∃y,ys[i]?=some y/\aq η v y:=by
  intro l
  induction l with
  | nil=>intro ys _ i v h;simp at h
  | cons a l ih=>
   intro ys d i v h;cases d with
   | cons _ y _ ys h1 h2=>
    cases i with
    | zero=>simp at h;subst h;exact⟨y,rfl,h1⟩
    | succ i=>simpa using ih h2 (i:=i) (by simpa using h)
 obtain⟨y,m,d⟩:=k hv hi;have h2:=f i y m;unfold World.cell? at h2;rw[show W.heap[(⟨blk,off+i,none⟩:Addr).block]?=some (.cells c e fr) from b]at h2;exact⟨y,by simpa using h2,d⟩
def Fz{η:Env}{H:Hp}{n:K}{b:K}{L:Loc}{l:List V}(hb:η b=some L)(a:b.num<n.num)(c:H.get b=some (.r l))(z:Nat)(A:Addr):X.κ H.get n z (.su b 0 0 z) 0 []/\aq η (.su b 0 0 z) (.slice (some A) 0 0):=by
 refine⟨⟨by simp,Or.inr ⟨⟨b,0,0,Or.inr U,a⟩,l,?_,?_⟩⟩,.se b 0 z A L hb⟩
 ·show X.gS H.get b=some l;simp[X.gS,c,O.row]
 ·show ch l 0 (0*z)=some [];rw[Nat.zero_mul];rw[X.sk (by omega)];simp
end Go.Ev
namespace Go.Ev
open Go Go.ChangeShapes Go.Deep
section
def FA{W:World}{a:Addr}{y:Value}(h:W.cell? a=some y):a.spot=none:=by
 unfold World.cell? at h;split at h
 ·split at h
  ·cases h
  ·rename_i h2;cases hs:a.spot with
   | none=>rfl
   | some _=>rw[hs]at h2;exact absurd rfl h2
 ·cases h
def yO(b o n:Nat):(⟨b,o,none⟩:Addr).add n=⟨b,o+n,none⟩:=by
 unfold Addr.add;by_cases h:n=0
 ·subst h;simp
 ·rw[Θ h]
def aln{ty:Ty}{W:World}{η:Env}{H:Hp}{n:K}(s:St ty W η H n){z len cap blk off:Nat}{cs:List V}{ys:List Value}(h0:0<ys.length)(c:∀i y,ys[i]?=some y->W.cell? ⟨blk,off+i,none⟩=some y)(hv:aN η cs ys)
 (hl:cs.length=cap*z)(a:len<=cap):
 ∃η' H' v,η.le η'/\St ty W η' H' n.succ/\X.Ext H.get n H'.get n.succ/\X.κ H'.get n.succ z v len (cs.take (len*z))/\aq η' v (.slice (some ⟨blk,off,none⟩) len cap):=by
 obtain⟨hb,d⟩:=alm (ty:=ty) (room:=0) h0 c hv;obtain⟨η',H',hle,hs,e,b⟩:=TV s (L:=⟨blk,off,0⟩) hb d;have f:len*z<=cs.length:=by rw[hl];exact fJ _ a
 refine⟨η',H',.sl n 0 len cap,hle,hs,by rw[b];exact(X.Ext.refl _ _).new _,?_,?_⟩
 ·refine X.κ.of (by rw[K.eF];omega) (row:=cs) ?_ a (by simp;omega) ?_
  ·rw[b];simp[X.gS,X.eQ,O.row]
  ·rw[X.sk (by omega),gb]
 ·have:=aq.sl (η:=η') n 0 len cap ⟨blk,off,0⟩ e;simpa using this
section
variable {A:Type}{enc:TypeId×Value->A}{P:Program}{W:World}{held:Bool}{ty:Ty}{η:Env}{H:Hp}{n:K}
def K8(d:DataW A)(m:Nat):Prop:=(d=.nil/\m=0)\/∃es sp,d=.slice es sp/\es.length=m
def alo(s:St ty W η H n){b:K}{Lb:Loc}{lb:List V}(hb:η b=some Lb)(p:b.num<n.num)(q:H.get b=some (.r lb)){t e:TypeId}{fuel:Nat}{y:Value}{x:DataW A×List MemPlace}
 (ht:P.underlying t=some (.slice e))(he:P.underlying e=some (.int .i64))(u:P.cellsOf e=1)(h:DataW.trod enc P W 0 (λ_=>true) held fuel t [y]=some x):
 ∃η' H' n' v l,η.le η'/\St ty W η' H' n'/\X.Ext H.get n H'.get n'/\X.da H'.get n' .i64 v l/\aq η' v y/\K8 x.1 l.length:=by
 rcases open_ints ht he u h with ⟨h1,h2⟩ | ⟨a,len,cap,zs,h1,_,hl,hm,g,j,c,w⟩
 ·injection h1 with h1;subst h1;subst h2;exact⟨η,H,n,.ns,[],λ_ _ h=>h,s,X.Ext.refl _ _,X.κ.ns _ _ _,.ns,Or.inl ⟨rfl,rfl⟩⟩
 ·injection h1 with h1;subst h1;simp only[if_true]at g;have hlen:K8 x.1 (zs.take len).length:=by rw[j];exact Or.inr ⟨_,_,rfl,by simp[lits]⟩
  have k:(zs.take len).length=len:=by simp;omega
  by_cases h0:cap=0
  ·have B:len=0:=by omega
   subst h0;subst B;obtain⟨g1,d⟩:=Fz hb p q 1 a;exact⟨η,H,n,.su b 0 0 1,[],λ_ _ h=>h,s,X.Ext.refl _ _,g1,d,by simpa using hlen⟩
  ·have m:=c 0 (by omega);have C:=FA m;obtain⟨blk,off,spot⟩:=a;have D:spot=none:=by simpa[Addr.add]using C
   subst D;have E:aN η (X.cO .i64 zs) (zs.map λz=>Value.int .i64 z):=by
    clear c g j w m hlen k h
    induction zs with
    | nil=>exact .nil
    | cons z zs ih=>exact .cons _ _ _ _ (.i _ _) ih
   obtain⟨η',H',v,g1,d,F,o,G⟩:=aln (z:=1) (len:=len) (cap:=cap) s (cs:=X.cO .i64 zs) (ys:=zs.map λz=>Value.int .i64 z) (blk:=blk) (off:=off) (by simp;omega) (λi y hi=>by
    have f:i<zs.length:=by have:=(mC.1 hi).1;simpa using this
    have:=c i f;rw[yO]at this;rw[this];simp only[List.getElem?_map,df f,ou,lK]at hi;rw[←hi,dH,df f];rfl) E (by rw[X.AZ];omega) hl
   refine⟨η',H',n.succ,v,zs.take len,g1,d,F,?_,G,hlen⟩;unfold X.da;rw[k];have e:=X.aay .i64 zs 0 len;rw[gb,gb]at e;rw[←e];rw[jz]at o;exact o
end
end
section
def alr{α:Type}:∀(l:List α) (i:Nat),nth l i=l[i]?:=by
 intro l
 induction l with
 | nil=>intro i;cases i<;>rfl
 | cons a l ih=>intro i;cases i with
  | zero=>rfl
  | succ i=>simp only[nth,pK];exact ih i
def als:∀bs:List UInt8,aT bs<256 ^ bs.length:=by
 intro bs
 induction bs with
 | nil=>simp[aT]
 | cons b l ih=>
  have hb:=b.toNat_lt;simp only[aT,dy,fy];omega
def yP(η:Env)(s:ByteArray):aq η (X.st s.data.toList) (.string s):=by
 have a:s.data.toList.length=s.size:=by show s.data.toList.length=s.data.size;rw[xN]
 have h:=aq.s (η:=η) s.size (aT s.data.toList) (by rw[←a];exact als _);rw[Nl]at h;have e:X.st s.data.toList=.s s.size (aT s.data.toList):=by unfold X.st;rw[a]
 rw[e];exact h
def alu{ty:Ty}{W:World}{η:Env}{blk off room:Nat}{cs:List V}(h0:∃j y,W.cell? ⟨blk,j,none⟩=some y)(b:∀i v,cs[i]?=some v->∃y,W.cell? ⟨blk,off+i,none⟩=some y/\aq η v y):
 blk<W.heap.size/\fR (WW ty) η (.r cs) ⟨blk,off,room⟩ W.heap[blk]?:=by
 obtain⟨j,f,h1⟩:=h0;unfold World.cell? at h1;simp only at h1;split at h1
 case h_2=>cases h1
 rename_i c e fr a;refine⟨(mB.1 a).1,c,e,fr,a,λi v hi=>?_⟩;obtain⟨y,h2,d⟩:=b i v hi;unfold World.cell? at h2;rw[show W.heap[(⟨blk,off+i,none⟩:Addr).block]?=some (.cells c e fr) from a]at h2;exact⟨y,by simpa using h2,d⟩
def K9{ty:Ty}{W:World}{η:Env}{H:Hp}{n:K}(s:St ty W η H n){z len cap blk off:Nat}{cs:List V}(h0:∃j y,W.cell? ⟨blk,j,none⟩=some y)(c:∀i v,cs[i]?=some v->∃y,W.cell? ⟨blk,off+i,none⟩=some y/\aq η v y)
 (hl:cs.length=cap*z)(a:len<=cap):
 ∃η' H' v,η.le η'/\St ty W η' H' n.succ/\X.Ext H.get n H'.get n.succ/\X.κ H'.get n.succ z v len (cs.take (len*z))/\aq η' v (.slice (some ⟨blk,off,none⟩) len cap):=by
 obtain⟨hb,d⟩:=alu (ty:=ty) (room:=0) h0 c;obtain⟨η',H',hle,hs,e,b⟩:=TV s (L:=⟨blk,off,0⟩) hb d;have f:len*z<=cs.length:=by rw[hl];exact fJ _ a
 refine⟨η',H',.sl n 0 len cap,hle,hs,by rw[b];exact(X.Ext.refl _ _).new _,?_,?_⟩
 ·refine X.κ.of (by rw[K.eF];omega) (row:=cs) ?_ a (by simp;omega) ?_
  ·rw[b];simp[X.gS,X.eQ,O.row]
  ·rw[X.sk (by omega),gb]
 ·have:=aq.sl (η:=η') n 0 len cap ⟨blk,off,0⟩ e;simpa using this
section
variable {A:Type}{enc:TypeId×Value->A}{P:Program}{W:World}{held:Bool}{ty:Ty}{η:Env}{H:Hp}{n:K}
def bytesOf:Value->List UInt8
 | .string s=>s.data.toList
 | _=>[]
def alv(s:St ty W η H n){b:K}{Lb:Loc}{lb:List V}(hb:η b=some Lb)(G:b.num<n.num)(I:H.get b=some (.r lb)){t e:TypeId}{f0 f1:Field}{fuel:Nat}{y:Value}{x:DataW A×List MemPlace}
 (ht:P.underlying t=some (.slice e))(he:P.underlying e=some (.struct #[f0,f1]))(ce:P.cellsOf e=2)(o0:f0.offset=0)(o1:f1.offset=1)(c0:P.cellsOf f0.type=1)(c1:P.cellsOf f1.type=1)
 (u0:P.underlying f0.type=some .string)(u1:P.underlying f1.type=some .string)(h:DataW.trod enc P W 0 (λ_=>true) held fuel t [y]=some x):
 ∃η' H' n' v l,η.le η'/\St ty W η' H' n'/\X.Ext H.get n H'.get n'/\X.du H'.get n' v l/\aq η' v y/\((x.1=.nil/\l=[])\/∃sp,x.1=.slice (l.map λp=>.agg [.lit (.string p.1),.lit (.string p.2)]) sp):=by
 rcases open_slice_pairs ht he ce o0 o1 c0 c1 h with ⟨h1,h2⟩ | ⟨a,len,cap,m,T,V0,V1,D0,D1,P0,P1,h1,_,hl,hm,k,J,f⟩
 ·injection h1 with h1;subst h1;subst h2;exact⟨η,H,n,.ns,[],λ_ _ h=>h,s,X.Ext.refl _ _,X.κ.ns _ _ _,.ns,Or.inl ⟨rfl,rfl⟩⟩
 ·injection h1 with h1;subst h1;simp only[if_true]at k;subst k;have each:∀i,i<m->(∃s0,V0 i=.string s0/\D0 i=.lit (.string s0.data.toList))/\∃s1,V1 i=.string s1/\D1 i=.lit (.string s1.data.toList):=λi hi=>by
   obtain⟨_,_,g0,g1⟩:=f i hi;obtain⟨s0,k0,c,_⟩:=DataW.trod_string u0 g0;obtain⟨s1,k1,d,_⟩:=DataW.trod_string u1 g1;injection k0 with k0;injection k1 with k1;injection c with c _;injection d with d _;exact⟨⟨s0,k0,c⟩,s1,k1,d⟩
  let l:List (X.S×X.S):=(List.range m).map λi=>(bytesOf (V0 i),bytesOf (V1 i));have ll:l.length=m:=by simp[l]
  have o:∀i (hi:i<l.length),l[i]=(bytesOf (V0 i),bytesOf (V1 i)):=λi hi=>by simp[l]
  have lt:l.take len=(List.range len).map λi=>(bytesOf (V0 i),bytesOf (V1 i)):=by simp only[l];rw[←List.map_take,List.take_range,rW hl]
  have u:x.1=.slice ((l.take len).map λp=>.agg [.lit (.string p.1),.lit (.string p.2)]) ((List.range (m - len)).map λj=>.agg [D0 (len+j),D1 (len+j)]):=by
   rw[J,lt,List.map_map];show DataW.slice _ _=DataW.slice _ _;congr 1;apply List.map_congr_left;intro i hi;have L:i<m:=by have:=List.mem_range.1 hi;omega
   obtain⟨⟨s0,k0,c⟩,s1,k1,d⟩:=each i L;simp[k0,c,k1,d,bytesOf]
  by_cases h0:m=0
  ·have M:len=0:=by omega
   subst h0;subst M;obtain⟨g1,g⟩:=Fz hb G I 2 a;exact⟨η,H,n,.su b 0 0 2,[],λ_ _ h=>h,s,X.Ext.refl _ _,g1,g,Or.inr ⟨_,by simpa using u⟩⟩
  ·have w:=(f 0 (by omega)).1;rw[Nat.zero_mul]at w;have B:W.cell? a=some (V0 0):=by simpa[Addr.add]using w
   have C:=FA B;obtain⟨blk,off,spot⟩:=a;simp only at C;subst C;obtain⟨η',H',v,g1,g,N,O,Q⟩:=K9 (z:=2) (len:=len) (cap:=m) s (cs:=X.fW l) (blk:=blk) (off:=off) ⟨_,_,B⟩ (λi v hi=>by
    have R:=(mC.1 hi).1;rw[X.HO,ll]at R;rw[←alr]at hi;obtain⟨q,U⟩:∃q,q=i / 2:=⟨_,rfl⟩;have D:q<m:=by omega
    obtain⟨E,F,_,_⟩:=f q D;obtain⟨⟨s0,k0,_⟩,s1,k1,_⟩:=each q D;rw[yO]at E F;by_cases hp:i % 2=0
    ·have ei:i=q*2:=by omega
     rw[ei,X.aav (by omega),o]at hi;injection hi with hi;refine⟨V0 q,by rw[ei];simpa using E,?_⟩;rw[←hi,k0];exact yP _ _
    ·have ei:i=q*2+1:=by omega
     rw[ei,X.aaw (by omega),o]at hi;injection hi with hi;refine⟨V1 q,by rw[ei];simpa using F,?_⟩;rw[←hi,k1];exact yP _ _) (by rw[X.HO,ll]) hl
   refine⟨η',H',n.succ,v,l.take len,g1,g,N,?_,Q,Or.inr ⟨_,u⟩⟩;unfold X.du;have e:=X.O4 l 0 len;rw[Nat.zero_mul,gb,gb]at e;rw[←e,show(l.take len).length=len by simp;omega];exact O
end
end
section
def J0{ts:List X.Nd}{mm:List (V×V)}(hm:mm.length=ts.length){k:Nat}(a:k<=ts.length):X.ca (ts.take k) (mm.take k)=(X.ca ts mm).take (k*5):=by
 have h1:(mm.take k).length=(ts.take k).length:=by simp;omega
 have h2:X.ca ts mm=X.ca (ts.take k) (mm.take k)++X.ca (ts.drop k) (mm.drop k):=by rw[←X.uw h1,xI,xI]
 have b:=X.sD h1;have c:(X.ca (ts.take k) (mm.take k)).length=k*5:=by rw[b,ot,rW a]
 rw[h2,List.take_append_of_le_length (by omega)];exact(kI (by omega)).symm
section
variable {A:Type}{enc:TypeId×Value->A}{P:Program}{W:World}{held:Bool}{ty:Ty}{η:Env}{H:Hp}{n:K}
def xG(d:DataW A)(x:X.Nd):Prop:=
 ∃dv a,d=.agg [.lit (.int .i64 x.op),.lit (.string x.sort),.lit (.string x.name),dv,a]/\((dv=.nil/\x.vars=[])\/∃sp,dv=.slice (x.vars.map λp=>.agg [.lit (.string p.1),.lit (.string p.2)]) sp)/\K8 a x.kids.length
structure FB(P:Program)(t e:TypeId)(f0 f1 f2 f3 f4:Field)(tp:TypeId)(g0 g1:Field)(ti:TypeId):Prop where
 ht:P.underlying t=some (.slice e)
 he:P.underlying e=some (.struct #[f0,f1,f2,f3,f4])
 ce:P.cellsOf e=5
 o0:f0.offset=0
 o1:f1.offset=1
 o2:f2.offset=2
 o3:f3.offset=3
 o4:f4.offset=4
 c0:P.cellsOf f0.type=1
 c1:P.cellsOf f1.type=1
 c2:P.cellsOf f2.type=1
 c3:P.cellsOf f3.type=1
 c4:P.cellsOf f4.type=1
 u0:P.underlying f0.type=some (.int .i64)
 u1:P.underlying f1.type=some .string
 u2:P.underlying f2.type=some .string
 u3:P.underlying f3.type=some (.slice tp)
 u4:P.underlying f4.type=some (.slice ti)
 ui:P.underlying ti=some (.int .i64)
 ci:P.cellsOf ti=1
 up:P.underlying tp=some (.struct #[g0,g1])
 cp:P.cellsOf tp=2
 po0:g0.offset=0
 po1:g1.offset=1
 pc0:P.cellsOf g0.type=1
 pc1:P.cellsOf g1.type=1
 pu0:P.underlying g0.type=some .string
 pu1:P.underlying g1.type=some .string
variable {t e tp ti:TypeId}{f0 f1 f2 f3 f4 g0 g1:Field}
def alC(T:FB P t e f0 f1 f2 f3 f4 tp g0 g1 ti)(s:St ty W η H n){b:K}{Lb:Loc}{lb:List V}(hb:η b=some Lb)(c:b.num<n.num)(f:H.get b=some (.r lb)){fuel:Nat}{cs:List Value}{x:DataW A×List MemPlace}
 (hl:cs.length=5)(h:DataW.trod enc P W 0 (λ_=>true) held fuel e cs=some x):
 ∃η' H' n' a vv kv,η.le η'/\St ty W η' H' n'/\X.Ext H.get n H'.get n'/\X.du H'.get n' vv a.vars/\X.da H'.get n' .i64 kv a.kids/\aN η' (X.bW a vv kv) cs/\xG x.1 a:=by
 obtain⟨xs,k,L,q,_,u,hf⟩:=DataW.trod_struct T.he h
 match xs,u,cs,hl with
 | [M,N,O,v,w],_,[v0,v1,v2,Q,v4],_=>
  have g:=hf 0 f0 rfl;have j:=hf 1 f1 rfl;have l:=hf 2 f2 rfl;have m:=hf 3 f3 rfl;have o:=hf 4 f4 rfl;simp[T.o0,T.c0]at g;simp[T.o1,T.c1]at j;simp[T.o2,T.c2]at l;simp[T.o3,T.c3]at m;simp[T.o4,T.c4]at o;obtain⟨op,k0,y,_⟩:=DataW.trod_int T.u0 g;obtain⟨s1,k1,z,_⟩:=DataW.trod_string T.u1 j;obtain⟨B,k2,C,_⟩:=DataW.trod_string T.u2 l;obtain⟨η1,H1,n1,vv,vars,p,D,d,E,F,G⟩:=alv s hb c f T.u3 T.up T.cp T.po0 T.po1 T.pc0 T.pc1 T.pu0 T.pu1 m;obtain⟨I,H2,J,kv,kids,b1,b2,b3,b4,b5,b6⟩:=alo D (p _ _ hb) (ep c d.1) (by have:=d.2 b c;rw[this];exact f) T.u4 T.ui T.ci o;injection k0 with k0;injection k1 with k1;injection k2 with k2;subst k0;subst k1;subst k2;refine⟨I,H2,J,⟨op,s1.data.toList,B.data.toList,vars,kids⟩,vv,kv,p.trans b1,b2,d.trans b3,E.ext b3,b4,?_,?_⟩
  ·exact .cons _ _ _ _ (.i _ _) (.cons _ _ _ _ (yP _ _) (.cons _ _ _ _ (yP _ _) (.cons _ _ _ _ (F.mono b1) (.cons _ _ _ _ b5 .nil))))
  ·refine⟨v.1,w.1,?_,G,b6⟩;rw[q];simp[y,z,C]
def alD(T:FB P t e f0 f1 f2 f3 f4 tp g0 g1 ti)(s:St ty W η H n){b:K}{Lb:Loc}{lb:List V}(hb:η b=some Lb)(o:b.num<n.num)(w:H.get b=some (.r lb)){fuel blk off m:Nat}{D:Nat->DataW A}{Pl:Nat->List MemPlace}
 (x:∀i,i<m->∃cs,cs.length=5/\(∀j,j<5->∃y,cs[j]?=some y/\W.cell? ⟨blk,off+(i*5+j),none⟩=some y)/\DataW.trod enc P W 0 (λ_=>true) held fuel e cs=some (D i,Pl i)):
 ∀k,k<=m->∃η' H' n' ts mm,η.le η'/\St ty W η' H' n'/\X.Ext H.get n H'.get n'/\ts.length=k/\mm.length=k/\(∀j (h1:j<ts.length) (h2:j<mm.length),X.du H'.get n' mm[j].1 ts[j].vars/\X.da H'.get n' .i64 mm[j].2 ts[j].kids/\xG (D j) ts[j])/\(∀i v,(X.ca ts mm)[i]?=some v->∃y,W.cell? ⟨blk,off+i,none⟩=some y/\aq η' v y):=by
 intro k
 induction k with
 | zero=>intro _;exact⟨η,H,n,[],[],λ_ _ h=>h,s,X.Ext.refl _ _,rfl,rfl,λj h=>by simp at h,λi v h=>by simp[X.ca]at h⟩
 | succ k ih=>
  intro R;obtain⟨η1,H1,n1,ts,mm,p,B,d,c,q,C,E⟩:=ih (by omega);obtain⟨cs,c1,c2,c3⟩:=x k (by omega);obtain⟨f,H2,F,g,vv,kv,b1,b2,b3,b4,b5,b6,b7⟩:=alC T B (p _ _ hb) (ep o d.1) (by rw[d.2 b o];exact w) c1 c3;have u:mm.length=ts.length:=by omega
  refine⟨f,H2,F,ts++[g],mm++[(vv,kv)],p.trans b1,b2,d.trans b3,by simp[c],by simp[q],λj h1 h2=>?_,λi v hi=>?_⟩
  ·by_cases hj:j<k
   ·obtain⟨G,I,J⟩:=C j (by omega) (by omega);rw[List.getElem_append_left (by omega),List.getElem_append_left (by omega)];exact⟨G.ext b3,I.ext b3,J⟩
   ·have L:j=k:=by simp[c]at h1;omega
    subst L;rw[List.getElem_append_right (by omega),List.getElem_append_right (by omega)];simp only[c,q,lL,nz];exact⟨b4,b5,b7⟩
  ·rw[X.uw u]at hi;have hlen:=X.sD u;by_cases S:i<k*5
   ·rw[qW (by omega)]at hi;obtain⟨y,h1,h2⟩:=E i v hi;exact⟨y,h1,h2.mono b1⟩
   ·rw[tU (by omega)]at hi;rw[hlen,c]at hi;have M:X.ca [g] [(vv,kv)]=X.bW g vv kv:=by simp[X.ca]
    rw[M]at hi;have N:i - k*5<5:=by have:=(mC.1 hi).1;simpa[X.bW]using this
    obtain⟨y,h1,h2⟩:=c2 (i - k*5) N;refine⟨y,by rw[show k*5+(i - k*5)=i by omega]at h2;exact h2,?_⟩;have O:∀{l:List V} {ys:List Value},aN f l ys->∀{i:Nat} {v:V} {y:Value},l[i]?=some v->ys[i]?=some y->aq f v y:=by
     intro l
     induction l with
     | nil=>intro ys _ i v y h;simp at h
     | cons a l ih=>
      intro ys Q i v y h h';cases Q with
      | cons _ z _ ys h1 h2=>
       cases i with
       | zero=>simp at h h';subst h;subst h';exact h1
       | succ i=>exact ih h2 (i:=i) (by simpa using h) (by simpa using h')
    exact O b6 hi h1
def alE(T:FB P t e f0 f1 f2 f3 f4 tp g0 g1 ti)(s:St ty W η H n){b:K}{Lb:Loc}{lb:List V}(hb:η b=some Lb)(f:b.num<n.num)(g:H.get b=some (.r lb)){fuel:Nat}{y:Value}{x:DataW A×List MemPlace}
 (h:DataW.trod enc P W 0 (λ_=>true) held fuel t [y]=some x):
 ∃η' H' n' v ts,η.le η'/\St ty W η' H' n'/\X.Ext H.get n H'.get n'/\X.aZ H'.get n' v ts/\aq η' v y/\((x.1=.nil/\ts=[])\/∃es sp,x.1=.slice es sp/\es.length=ts.length/\∀j (h1:j<ts.length) (h2:j<es.length),xG es[j] ts[j]):=by
 rcases open_slice T.ht h with ⟨h1,h2⟩ | ⟨a,len,cap,m,B,D,Pl,h1,_,hl,hm,k,C,c⟩
 ·injection h1 with h1;subst h1;subst h2;exact⟨η,H,n,.ns,[],λ_ _ h=>h,s,X.Ext.refl _ _,⟨[],rfl,X.κ.ns _ _ _,λi hi=>by simp at hi⟩,.ns,Or.inl ⟨rfl,rfl⟩⟩
 ·injection h1 with h1;subst h1;simp only[if_true]at k;subst k;rw[T.ce]at c;have l:∀ts:List X.Nd,ts.length=len->(∀j (h1:j<ts.length),xG (D j) ts[j])->((x.1=.nil/\ts=[])\/∃es sp,x.1=.slice es sp/\es.length=ts.length/\∀j (h1:j<ts.length) (h2:j<es.length),xG es[j] ts[j]):=λts E F=>by
   refine Or.inr ⟨_,_,by rw[C],by simp[E],λj h1 h2=>?_⟩;simpa using F j h1
  by_cases h0:m=0
  ·have G:len=0:=by omega
   subst h0;subst G;obtain⟨I,J⟩:=Fz hb f g 5 a;exact⟨η,H,n,.su b 0 0 5,[],λ_ _ h=>h,s,X.Ext.refl _ _,⟨[],rfl,I,λi hi=>by simp at hi⟩,J,l [] rfl (λj h1=>by simp at h1)⟩
  ·obtain⟨L,M,q2⟩:=c 0 (by omega);obtain⟨_,N,O⟩:=World.cells?_some M;have Q:=O 0 (by omega);have o:W.cell? a=some (L[0]'(by omega)):=by simpa[Addr.add,N]using Q
   have p:=FA o;obtain⟨blk,off,spot⟩:=a;simp only at p;subst p;obtain⟨η1,H1,n1,ts,mm,R,S,U,a4,a5,q,Y⟩:=alD T s hb f g (fuel:=B) (blk:=blk) (off:=off) (m:=m) (D:=D) (Pl:=Pl) (λi hi=>by obtain⟨cs,r1,r2⟩:=c i hi;obtain⟨_,d,Z⟩:=World.cells?_some r1;refine⟨cs,d,λj hj=>?_,r2⟩;have u:=Z j hj;rw[yO,yO]at u;refine⟨cs[j]'(by omega),by simp[d,hj],?_⟩;rw[show off+(i*5+j)=off+i*5+j by omega,u];simp[d,hj]) m (φ _)
   have w:mm.length=ts.length:=by omega
   obtain⟨η2,H2,v,b1,b2,b3,b4,b5⟩:=K9 (z:=5) (len:=len) (cap:=m) S (cs:=X.ca ts mm) (blk:=blk) (off:=off) ⟨_,_,o⟩ Y (by rw[X.sD w];omega) hl;refine⟨η2,H2,n1.succ,v,ts.take len,R.trans b1,b2,U.trans b3,?_,b5,l _ (by simp;omega) (λj h1=>?_)⟩
   ·have kA:(ts.take len).length=len:=by simp;omega
    refine⟨mm.take len,by simp;omega,?_,λi hi=>?_⟩
    ·rw[J0 w (by omega),kA];exact b4
    ·obtain⟨p1,p2,_⟩:=q i (by simp at hi;omega) (by simp at hi;omega);simp only[List.getElem_take];exact⟨p1.ext b3,p2.ext b3⟩
   ·have hj:j<ts.length:=by simp at h1;omega
    have:=(q j hj (by omega)).2.2;simpa using this
end
end
section
section
variable {A:Type}{enc:TypeId×Value->A}{P:Program}{W:World}{sp:Nat->Bool}{held:Bool}{η:Env}
def La:DataW A->V
 | .lit (.int k n)=>.i k n
 | .lit (.string bs)=>X.st bs
 | _=>.q
def uU(enc:TypeId×Value->A)(P:Program)(W:World)(sp:Nat->Bool)(held:Bool)(η:Env)(dv:DataW A->V)(t:TypeId):Prop:=
 ∀fuel y x,DataW.trod enc P W 0 sp held fuel t [y]=some x->aq η (dv x.1) y
def FC{t:TypeId}{k:IntKind}{dv:DataW A->V}(u:P.underlying t=some (.int k))(h:∀n,dv (.lit (.int k n))=.i k n):uU enc P W sp held η dv t:=λfuel y x a=>by obtain⟨n,h1,h2,_⟩:=DataW.trod_int u a;injection h1 with h1;subst h1;rw[h2];show aq η (dv (.lit (.int k n))) _;rw[h];exact .i _ _
def xl{t:TypeId}{dv:DataW A->V}(u:P.underlying t=some .string)(h:∀bs,dv (.lit (.string bs))=X.st bs):uU enc P W sp held η dv t:=λfuel y x a=>by obtain⟨s,h1,h2,_⟩:=DataW.trod_string u a;injection h1 with h1;subst h1;rw[h2];show aq η (dv (.lit (.string _))) _;rw[h];exact yP _ _
def FD(enc:TypeId×Value->A)(P:Program)(W:World)(sp:Nat->Bool)(held:Bool)(η:Env)(dv:DataW A->List V)(t:TypeId)(sz:Nat):Prop:=
 ∀fuel cs x,cs.length=sz->DataW.trod enc P W 0 sp held fuel t cs=some x->aN η (dv x.1) cs
def FE{dv:DataW A->V}{t:TypeId}(h:uU enc P W sp held η dv t):FD enc P W sp held η (λd=>[dv d]) t 1:=λfuel cs x hl a=>by
 match cs,hl with
 | [y],_=>exact .cons _ _ _ _ (h fuel y x a) .nil
def alF(dv:DataW A->V):DataW A->List V
 | .agg [a,b,c,d]=>[dv a,dv b,dv c,dv d]
 | _=>[]
def TX{dv:DataW A->V}{t:TypeId}{f0 f1 f2 f3:Field}(ht:P.underlying t=some (.struct #[f0,f1,f2,f3]))(o0:f0.offset=0)(o1:f1.offset=1)(o2:f2.offset=2)(o3:f3.offset=3)
 (c0:P.cellsOf f0.type=1)(c1:P.cellsOf f1.type=1)(c2:P.cellsOf f2.type=1)(c3:P.cellsOf f3.type=1)
 (s0:uU enc P W sp held η dv f0.type)(s1:uU enc P W sp held η dv f1.type)(e:uU enc P W sp held η dv f2.type)(f:uU enc P W sp held η dv f3.type):FD enc P W sp held η (alF dv) t 4:=λfuel cs x hl g=>by
 obtain⟨xs,k,j,h,_,i,hf⟩:=DataW.trod_struct ht g
 match xs,i,cs,hl with
 | [l,m,n,o],_,[v0,v1,v2,p],_=>
  have a:=hf 0 f0 rfl;have b:=hf 1 f1 rfl;have c:=hf 2 f2 rfl;have d:=hf 3 f3 rfl;simp[o0,c0]at a;simp[o1,c1]at b;simp[o2,c2]at c;simp[o3,c3]at d;rw[h];exact .cons _ _ _ _ (s0 _ _ _ a) (.cons _ _ _ _ (s1 _ _ _ b) (.cons _ _ _ _ (e _ _ _ c) (.cons _ _ _ _ (f _ _ _ d) .nil)))
def alG{η:Env}:∀{l:List V} {ys:List Value},aN η l ys->∀{i:Nat} {v:V},l[i]?=some v->∃y,ys[i]?=some y/\aq η v y:=by
 intro l
 induction l with
 | nil=>intro ys _ i v h;simp at h
 | cons a l ih=>
  intro ys b i v h;cases b with
  | cons _ y _ ys h1 h2=>
   cases i with
   | zero=>simp at h;subst h;exact⟨y,rfl,h1⟩
   | succ i=>simpa using ih h2 (i:=i) (by simpa using h)
def alH{dv:DataW A->List V}{t e:TypeId}{m sz fuel:Nat}{cs:List Value}{d:DataW A}{ps:List MemPlace}{ds:List (DataW A)}{l:List V}(b:0<sz)(ht:P.underlying t=some (.array m e))(s:P.cellsOf e=sz)(u:P.cellsOf t=m*sz)
 (he:FD enc P W sp held η dv e sz)(h:DataW.trod enc P W 0 sp held fuel t cs=some (d,ps))(c:d=.agg ds)(hl:∀q,q<m->(l.drop (q*sz)).take sz=dv (ds.getD q .nil))(w:l.length=m*sz):
 ∀(i:Nat) (v:V),l[i]?=some v->∃y,cs[i]?=some y/\aq η v y:=by
 intro i v hi;have x:i<m*sz:=by rw[←w];exact(mC.1 hi).1
 have a:i / sz<m:=(xH b).2 x;have f:i % sz<sz:=j4 _ b;have g:i / sz*sz+i % sz=i:=by rw[cT];exact tY i sz
 obtain⟨xs,z,_,B,j,G,k⟩:=DataW.trod_array ht h;rw[s]at k;rw[u]at j;injection B with C _;rw[C]at c;injection c with D;generalize i / sz=q at*;generalize i % sz=r at*;have n:q<xs.length:=by omega
 have o:=k q a;rw[df n]at o;have H:q*sz+sz<=m*sz:=by rw[←rX];exact fJ _ a
 have p:=he z _ _ (by rw[ot,qZ,j];omega) o;have E:ds.getD q .nil=xs[q].1:=by rw[←D,dH,List.getElem?_map,df n];rfl
 rw[←E,←hl q a]at p;have F:((l.drop (q*sz)).take sz)[r]?=some v:=by rw[List.getElem?_take_of_lt f,vL,g];exact hi
 obtain⟨y,h1,h2⟩:=alG p F;rw[List.getElem?_take_of_lt f,vL,g]at h1;exact⟨y,h1,h2⟩
end
end
section
section
variable {A α:Type}{enc:TypeId×Value->A}{P:Program}{W:World}{held:Bool}{ty:Ty}
def Gy(enc:TypeId×Value->A)(P:Program)(W:World)(held:Bool)(ty:Ty)(e:TypeId)(R:X.Hf->K->V->α->Prop)(D:DataW A->α->Prop):Prop:=
 ∀{η:Env} {H:Hp} {n:K} (s:St ty W η H n) {b:K} {Lb:Loc} {lb:List V} (hb:η b=some Lb) (c:b.num<n.num) (d:H.get b=some (.r lb)) {fuel:Nat} {y:Value} {x:DataW A×List MemPlace},DataW.trod enc P W 0 (λ_=>true) held fuel e [y]=some x->∃η' H' n' v a,η.le η'/\St ty W η' H' n'/\X.Ext H.get n H'.get n'/\R H'.get n' v a/\aq η' v y/\D x.1 a
def LD(D:DataW A->α->Prop)(d:DataW A)(l:List α):Prop:=(d=.nil/\l=[])\/∃es sp,d=.slice es sp/\es.length=l.length/\∀j (h1:j<l.length) (h2:j<es.length),D es[j] l[j]
variable {R:X.Hf->K->V->α->Prop}{D:DataW A->α->Prop}{t e:TypeId}
end
end
section
def alK{η:Env}:∀{l:List V} {ys:List Value},aN η l ys->∀{i:Nat} {v:V} {y:Value},l[i]?=some v->ys[i]?=some y->aq η v y:=by
 intro l
 induction l with
 | nil=>intro ys _ i v y h;simp at h
 | cons a l ih=>
  intro ys b i v y h h';cases b with
  | cons _ z _ ys h1 h2=>
   cases i with
   | zero=>simp at h h';subst h;subst h';exact h1
   | succ i=>exact ih h2 (i:=i) (by simpa using h) (by simpa using h')
section
variable {A α:Type}{enc:TypeId×Value->A}{P:Program}{W:World}{held:Bool}{ty:Ty}
def Xl(enc:TypeId×Value->A)(P:Program)(W:World)(held:Bool)(ty:Ty)(e:TypeId)(z:Nat)(R:X.Hf->K->List V->α->Prop)(D:DataW A->α->Prop):Prop:=
 ∀{η:Env} {H:Hp} {n:K} (s:St ty W η H n) {b:K} {Lb:Loc} {lb:List V} (hb:η b=some Lb) (c:b.num<n.num) (d:H.get b=some (.r lb)) {fuel:Nat} {cs:List Value} {x:DataW A×List MemPlace},cs.length=z->DataW.trod enc P W 0 (λ_=>true) held fuel e cs=some x->∃η' H' n' vs a,η.le η'/\St ty W η' H' n'/\X.Ext H.get n H'.get n'/\R H'.get n' vs a/\vs.length=z/\aN η' vs cs/\D x.1 a
variable {R:X.Hf->K->List V->α->Prop}{D:DataW A->α->Prop}{t e:TypeId}{z:Nat}
def alL(hR:∀{h n h' n' v a},R h n v a->X.Ext h n h' n'->R h' n' v a)(r:Xl enc P W held ty e z R D){η:Env}{H:Hp}{n:K}(s:St ty W η H n){b:K}{Lb:Loc}{lb:List V}(hb:η b=some Lb)(f:b.num<n.num)(q:H.get b=some (.r lb)){fuel blk off m:Nat}{E:Nat->DataW A}{Pl:Nat->List MemPlace}
 (x:∀i,i<m->∃cs,cs.length=z/\(∀j,j<z->∃y,cs[j]?=some y/\W.cell? ⟨blk,off+(i*z+j),none⟩=some y)/\DataW.trod enc P W 0 (λ_=>true) held fuel e cs=some (E i,Pl i)):
 ∀k,k<=m->∃η' H' n',∃(l:List α) (rs:List (List V)),η.le η'/\St ty W η' H' n'/\X.Ext H.get n H'.get n'/\l.length=k/\rs.length=k/\(∀u∈rs,u.length=z)/\(∀j (h1:j<rs.length) (h2:j<l.length),R H'.get n' rs[j] l[j]/\D (E j) l[j])/\rs.flatten.length=k*z/\(∀i v,rs.flatten[i]?=some v->∃y,W.cell? ⟨blk,off+i,none⟩=some y/\aq η' v y):=by
 intro k
 induction k with
 | zero=>intro _;exact⟨η,H,n,[],[],λ_ _ h=>h,s,X.Ext.refl _ _,rfl,rfl,λu h=>by simp at h,λj h=>by simp at h,by simp,λi v h=>by simp at h⟩
 | succ k ih=>
  intro S;obtain⟨η1,H1,n1,l,rs,g,B,c,o,d,C,F,p,G⟩:=ih (by omega);obtain⟨cs,c1,c2,c3⟩:=x k (by omega);obtain⟨I,H2,J,w,a,b1,b2,b3,b4,b7,b5,b6⟩:=r B (g _ _ hb) (ep f c.1) (by rw[c.2 b f];exact q) c1 c3;refine⟨I,H2,J,l++[a],rs++[w],g.trans b1,b2,c.trans b3,by simp[o],by simp[d],λu L=>?_,λj h1 h2=>?_,?_,λi v hi=>?_⟩
  ·rcases gQ.1 L with h | h
   ·exact C u h
   ·rw[iZ]at h;rw[h];exact b7
  ·by_cases hj:j<k
   ·obtain⟨M,N⟩:=F j (by omega) (by omega);rw[List.getElem_append_left (by omega),List.getElem_append_left (by omega)];exact⟨hR M b3,N⟩
   ·have O:j=k:=by simp[d]at h1;omega
    subst O;rw[List.getElem_append_right (by omega),List.getElem_append_right (by omega)];simp only[o,d,lL,nz];exact⟨b4,b6⟩
  ·rw[List.flatten_append,gp,p];simp[b7,fM]
  ·rw[List.flatten_append]at hi;by_cases T:i<k*z
   ·rw[qW (by omega)]at hi;obtain⟨y,h1,h2⟩:=G i v hi;exact⟨y,h1,h2.mono b1⟩
   ·rw[tU (by omega),p]at hi;simp only[List.flatten_cons,List.flatten_nil,List.append_nil]at hi;have Q:i - k*z<z:=by
     have:=(mC.1 hi).1;omega
    obtain⟨y,h1,h2⟩:=c2 (i - k*z) Q;exact⟨y,by rw[show k*z+(i - k*z)=i by omega]at h2;exact h2,alK b5 hi h1⟩
def TY{z:Nat}:∀{rs:List (List V)} (_:∀u∈rs,u.length=z) (k:Nat),(rs.flatten).take (k*z)=(rs.take k).flatten
 | [],_,k=>by simp
 | u::rs,h,0=>by simp
 | u::rs,h,k+1=>by have a:=h u (by simp);rw[mD,List.flatten_cons,List.flatten_cons,←TY (rs:=rs) (λv hv=>h v (by simp[hv])) k,fM,Nat.one_mul,nF,←a];rw[show(u++rs.flatten).take (u.length+k*u.length)=u++rs.flatten.take (k*u.length) by rw[List.take_append,kI (Nat.le_add_right _ _)];simp]
def alM(f:0<z)(hR:∀{h n h' n' v a},R h n v a->X.Ext h n h' n'->R h' n' v a)(ht:P.underlying t=some (.slice e))(C:P.cellsOf e=z)(r:Xl enc P W held ty e z R D):
 Gy enc P W held ty t (λh n v l=>∃rs:List (List V),rs.length=l.length/\X.κ h n z v l.length rs.flatten/\∀i (h1:i<rs.length) (h2:i<l.length),R h n rs[i] l[i]) (LD D):=by
 intro η H n s b Lb lb hb g k fuel y x h;rcases open_slice ht h with ⟨h1,h2⟩ | ⟨a,len,cap,m,F,E,Pl,h1,_,hl,hm,o,G,c⟩
 ·injection h1 with h1;subst h1;exact⟨η,H,n,.ns,[],λ_ _ h=>h,s,X.Ext.refl _ _,⟨[],rfl,X.κ.ns _ _ _,λi hi=>by simp at hi⟩,.ns,Or.inl ⟨by rw[h2],rfl⟩⟩
 ·injection h1 with h1;subst h1;simp only[if_true]at o;subst o;rw[C]at c;have p:∀l:List α,l.length=len->(∀j (h1:j<l.length),D (E j) l[j])->LD D x.1 l:=λl I J=>by
   refine Or.inr ⟨_,_,by rw[G],by simp[I],λj h1 h2=>?_⟩;simpa using J j h1
  by_cases h0:m=0
  ·have L:len=0:=by omega
   subst h0;subst L;obtain⟨M,N⟩:=Fz hb g k z a;exact⟨η,H,n,.su b 0 0 z,[],λ_ _ h=>h,s,X.Ext.refl _ _,⟨[],rfl,M,λi hi=>by simp at hi⟩,N,p [] rfl (λj h1=>by simp at h1)⟩
  ·obtain⟨O,Q,q2⟩:=c 0 (by omega);obtain⟨_,S,T⟩:=World.cells?_some Q;have U:=T 0 f;have q:W.cell? a=some (O[0]'(by omega)):=by simpa[Addr.add,S,f]using U
   have u:=FA q;obtain⟨blk,off,spot⟩:=a;simp only at u;subst u;obtain⟨η1,H1,n1,l,rs,Y,Z,a3,a4,a5,a9,w,a8,a7⟩:=alL (R:=R) (D:=D) hR @r s hb g k (fuel:=F) (blk:=blk) (off:=off) (m:=m) (E:=E) (Pl:=Pl) (λi hi=>by obtain⟨cs,r1,r2⟩:=c i hi;obtain⟨_,d,r4⟩:=World.cells?_some r1;refine⟨cs,d,λj hj=>?_,r2⟩;have B:=r4 j hj;rw[yO,yO]at B;refine⟨cs[j]'(by omega),by simp[d,hj],?_⟩;rw[show off+(i*z+j)=off+i*z+j by omega,B];simp[d,hj]) m (φ _)
   obtain⟨η2,H2,v,b1,b2,b3,b4,b5⟩:=K9 (z:=z) (len:=len) (cap:=m) Z (cs:=rs.flatten) (blk:=blk) (off:=off) ⟨_,_,q⟩ a7 a8 hl;refine⟨η2,H2,n1.succ,v,l.take len,Y.trans b1,b2,a3.trans b3,?_,b5,p _ (by simp;omega) (λj h1=>?_)⟩
   ·have kA:(l.take len).length=len:=by simp;omega
    refine⟨rs.take len,by simp;omega,by rw[kA,←TY a9];exact b4,λi h1 h2=>?_⟩;simp only[List.getElem_take];exact hR (w i (by simp at h1;omega) (by simp at h2;omega)).1 b3
   ·have hj:j<l.length:=by simp at h1;omega
    have:=(w j (by omega) hj).2;simpa using this
def MZ(D:DataW A->List X.Nd->Prop)(d:DataW A)(x:X.Bi):Prop:=∃a,d=.agg [.lit (.string x.1),a]/\D a x.2
def Xm(h:X.Hf)(n:K)(vs:List V)(x:X.Bi):Prop:=∃m,vs=[X.st x.1,m]/\X.aZ h n m x.2
def alN{f0 f1:Field}{D:DataW A->List X.Nd->Prop}(he:P.underlying e=some (.struct #[f0,f1]))(o0:f0.offset=0)(o1:f1.offset=1)(c0:P.cellsOf f0.type=1)(c1:P.cellsOf f1.type=1)(u0:P.underlying f0.type=some .string)
 (r:Gy enc P W held ty f1.type X.aZ D):Xl enc P W held ty e 2 Xm (MZ D):=by
 intro η H n s b Lb lb hb d f fuel cs x hl h;obtain⟨xs,k,y,g,_,i,hf⟩:=DataW.trod_struct he h
 match xs,i,cs,hl with
 | [B,j],_,[v0,v1],_=>
  have a:=hf 0 f0 rfl;have c:=hf 1 f1 rfl;simp[o0,c0]at a;simp[o1,c1]at c;obtain⟨s1,k1,l,_⟩:=DataW.trod_string u0 a;obtain⟨η1,H1,n1,v,ts,m,o,p,q,u,w⟩:=r s hb d f c;injection k1 with k1;subst k1;refine⟨η1,H1,n1,[X.st s1.data.toList,v],(s1.data.toList,ts),m,o,p,⟨v,rfl,q⟩,rfl,.cons _ _ _ _ (yP _ _) (.cons _ _ _ _ u .nil),j.1,?_,w⟩;rw[g];simp[l]
def TZ{h:X.Hf}{n:K}:∀{l:List X.Bi} {rs:List (List V)},rs.length=l.length->(∀i (h1:i<rs.length) (h2:i<l.length),Xm h n rs[i] l[i])->∃ms:List V,∃hm:ms.length=l.length,X.iE l ms=rs.flatten/\∀i (hi:i<l.length),X.aZ h n (ms[i]'(by omega)) l[i].2
 | [],[],_,_=>⟨[],rfl,rfl,λi hi=>by simp at hi⟩
 | x::l,u::rs,hl,a=>by
  obtain⟨m,h1,h2⟩:=a 0 (by simp) (by simp);obtain⟨ms,hm,b,c⟩:=TZ (l:=l) (rs:=rs) (by simpa using hl) λi g1 d=>a (i+1) (by simpa using g1) (by simpa using d);refine⟨m::ms,by simp[hm],?_,λi hi=>?_⟩
  ·simp only[X.iE,List.flatten_cons,b];rw[show u=_ from h1];rfl
  ·cases i with
   | zero=>exact h2
   | succ i=>exact c i (by simpa using hi)
def alO{f0 f1:Field}{D:DataW A->List X.Nd->Prop}(ht:P.underlying t=some (.slice e))(a:P.cellsOf e=2)(he:P.underlying e=some (.struct #[f0,f1]))(o0:f0.offset=0)(o1:f1.offset=1)(c0:P.cellsOf f0.type=1)(c1:P.cellsOf f1.type=1)(u0:P.underlying f0.type=some .string)
 (r:Gy enc P W held ty f1.type X.aZ D):Gy enc P W held ty t X.dZ (LD (MZ D)):=by
 intro η H n s b Lb lb hb c d fuel y x h;obtain⟨η',H',n',v,l,f,g,i,⟨rs,j,k,o⟩,p,q⟩:=alM (R:=Xm) (by omega) (λ⟨m,g1,u⟩ e=>⟨m,g1,u.ext e⟩) ht a (alN he o0 o1 c0 c1 u0 @r) s hb c d h;obtain⟨ms,hm,w,B⟩:=TZ j o;exact⟨η',H',n',v,l,f,g,i,⟨ms,hm,by rw[w];exact k,B⟩,p,q⟩
end
end
end Go.Ev
