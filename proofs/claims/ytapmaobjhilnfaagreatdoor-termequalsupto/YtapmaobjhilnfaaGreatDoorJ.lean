/- A part of the proof. -/
import Derived.Deep.SlicePairs
import Derived.ChangeSlices
import Derived.OpenShut
import Derived.Test.YtapmaobjhilnfaaGreatDoorF
import Derived.Test.YtapmaobjhilnfaaGreatDoorI
set_option linter.all false
namespace Go.Ev
open Go
structure St(ty:Ty)(W:World)(η:Env)(H:Hp)(n:K):Prop where
 rep:bk (WW ty) η H n W
 ro:∀k o,H.get k=some o->∃l,o=.r l
theorem Xf{ty:Ty}{W:World}{η:Env}{H:Hp}{n:K}(s:St ty W η H n){l:List V}{L:Loc}(hb:L.blk<W.heap.size)(ho:gO (WW ty) η (.r l) L W.heap[L.blk]?):
 ∃η' H',η.le η'/\St ty W η' H' n.succ/\η' n=some L/\H'.get=X.hp H.get n (some (.r l)):=by
 have LQ:η n=none:=s.rep.free n (χ _);let η':Env:=λk=>if k=n then some L else η k
 have hle:η.le η':=λk M h=>by
  show(if k=n then some L else η k)=some M
  by_cases hk:k=n
  ·rw[hk,LQ]at h;cases h
  ·rw[Ξ hk];exact h
 have hn:η' n=some L:=by show(if n=n then some L else η n)=_;rw[au rfl]
 have tj:(H.put (some (.r l)) n).get=X.hp H.get n (some (.r l)):=X.jS H n _;refine⟨η',H.put (some (.r l)) n,hle,⟨⟨λk o hk=>?_,λk k' o o' M M' aR hk hm=>?_,λk hk=>?_⟩,λk o hk=>?_⟩,hn,tj⟩
 ·rw[tj]at hk;by_cases e:k=n
  ·subst e;rw[X.fR]at hk;injection hk with hk;subst hk;exact⟨L,hn,hb,ho.mono hle⟩
  ·rw[X.ox _ _ e]at hk;obtain⟨M,h1,h2,h3⟩:=s.rep.obj k o hk;exact⟨M,hle _ _ h1,h2,h3.mono hle⟩
 ·exfalso;rw[tj]at hk;by_cases e:k=n
  ·subst e;rw[X.fR]at hk;injection hk with hk;subst hk;cases hm
  ·rw[X.ox _ _ e]at hk;obtain⟨l',rfl⟩:=s.ro k o hk;cases hm
 ·have h1:n.num<k.num:=by rw[K.fQ]at hk;omega
  show(if k=n then some L else η k)=none
  rw[Ξ (λe=>by rw[e]at h1;omega)];exact s.rep.free k (by omega)
 ·rw[tj]at hk;by_cases e:k=n
  ·subst e;rw[X.fR]at hk;injection hk with hk;exact⟨l,hk.symm⟩
  ·rw[X.ox _ _ e]at hk;exact s.ro k o hk
theorem aj8{ty:Ty}{W:World}{η:Env}{blk off room:Nat}{l:List V}{ys:List Value}(h0:0<ys.length)(hc:∀i y,ys[i]?=some y->W.cell? ⟨blk,off+i,none⟩=some y)(hv:bc η l ys):
 blk<W.heap.size/\gO (WW ty) η (.r l) ⟨blk,off,room⟩ W.heap[blk]?:=by
 obtain⟨y0,Yz⟩:∃y,ys[0]?=some y:=⟨ys[0],by simp[h0]⟩;have h1:=hc 0 y0 Yz;unfold World.cell? at h1;simp only at h1;split at h1
 case h_2=>cases h1
 rename_i c e fr hh;refine⟨(oh.1 hh).1,c,e,fr,hh,λi v hi=>?_⟩;have rl:∀{l:List V} {ys:List Value},bc η l ys->∀{i:Nat} {v:V},l[i]?=some v->∃y,ys[i]?=some y/\al η v y:=by
  intro l
  induction l with
  | nil=>intro ys _ i v h;simp at h
  | cons a l ih=>
   intro ys hr i v h;cases hr with
   | cons _ y _ ys h1 h2=>
    cases i with
    | zero=>simp at h;subst h;exact⟨y,rfl,h1⟩
    | succ i=>simpa using ih h2 (i:=i) (by simpa using h)
 obtain⟨y,hy,hr⟩:=rl hv hi;have h2:=hc i y hy;unfold World.cell? at h2;rw[show W.heap[(⟨blk,off+i,none⟩:Addr).block]?=some (.cells c e fr) from hh]at h2;exact⟨y,by simpa using h2,hr⟩
theorem NS{η:Env}{H:Hp}{n:K}{b:K}{L:Loc}{l:List V}(hb:η b=some L)(jU:b.num<n.num)(hr:H.get b=some (.r l))(z:Nat)(A:Addr):X.φ H.get n z (.su b 0 0 z) 0 []/\al η (.su b 0 0 z) (.slice (some A) 0 0):=by
 refine⟨⟨by simp,Or.inr ⟨⟨b,0,0,Or.inr U,jU⟩,l,?_,?_⟩⟩,.se b 0 z A L hb⟩
 ·show X.jg H.get b=some l;simp[X.jg,hr,O.row]
 ·show db l 0 (0*z)=some [];rw[Nat.zero_mul];rw[X.yh (by omega)];simp
end Go.Ev
namespace Go.Ev
open Go Go.ChangeShapes Go.Deep
section
theorem NT{W:World}{a:Addr}{y:Value}(h:W.cell? a=some y):a.spot=none:=by
 unfold World.cell? at h;split at h
 ·split at h
  ·cases h
  ·rename_i h2;cases hs:a.spot with
   | none=>rfl
   | some _=>rw[hs]at h2;exact absurd rfl h2
 ·cases h
theorem IN(b o n:Nat):(⟨b,o,none⟩:Addr).add n=⟨b,o+n,none⟩:=by
 unfold Addr.add;by_cases h:n=0
 ·subst h;simp
 ·rw[Ξ h]
theorem aj9{ty:Ty}{W:World}{η:Env}{H:Hp}{n:K}(s:St ty W η H n){z len cap blk off:Nat}{cs:List V}{ys:List Value}(h0:0<ys.length)(hc:∀i y,ys[i]?=some y->W.cell? ⟨blk,off+i,none⟩=some y)(hv:bc η cs ys)
 (hl:cs.length=cap*z)(sV:len<=cap):
 ∃η' H' v,η.le η'/\St ty W η' H' n.succ/\X.Ext H.get n H'.get n.succ/\X.φ H'.get n.succ z v len (cs.take (len*z))/\al η' v (.slice (some ⟨blk,off,none⟩) len cap):=by
 obtain⟨hb,ho⟩:=aj8 (ty:=ty) (room:=0) h0 hc hv;obtain⟨η',H',hle,hs,hn,hg⟩:=Xf s (L:=⟨blk,off,0⟩) hb ho;have hlz:len*z<=cs.length:=by rw[hl];exact gX _ sV
 refine⟨η',H',.sl n 0 len cap,hle,hs,by rw[hg];exact(X.Ext.refl _ _).new _,?_,?_⟩
 ·refine X.φ.of (by rw[K.fQ];omega) (row:=cs) ?_ sV (by simp;omega) ?_
  ·rw[hg];simp[X.jg,X.fR,O.row]
  ·rw[X.yh (by omega),jr]
 ·have:=al.sl (η:=η') n 0 len cap ⟨blk,off,0⟩ hn;simpa using this
section
variable {A:Type}{enc:TypeId×Value->A}{P:Program}{W:World}{held:Bool}{ty:Ty}{η:Env}{H:Hp}{n:K}
def NU(d:DataW A)(m:Nat):Prop:=(d=.nil/\m=0)\/∃es sp,d=.slice es sp/\es.length=m
theorem aka(s:St ty W η H n){b:K}{Lb:Loc}{lb:List V}(hb:η b=some Lb)(jU:b.num<n.num)(xu:H.get b=some (.r lb)){t e:TypeId}{fuel:Nat}{y:Value}{x:DataW A×List MemPlace}
 (ht:P.underlying t=some (.slice e))(he:P.underlying e=some (.int .i64))(hc:P.cellsOf e=1)(h:DataW.trod enc P W 0 (λ_=>true) held fuel t [y]=some x):
 ∃η' H' n' v l,η.le η'/\St ty W η' H' n'/\X.Ext H.get n H'.get n'/\X.eL H'.get n' .i64 v l/\al η' v y/\NU x.1 l.length:=by
 rcases open_ints ht he hc h with ⟨h1,h2⟩ | ⟨a,len,cap,zs,h1,_,hl,hm,JA,hx,A4,Ya⟩
 ·injection h1 with h1;subst h1;subst h2;exact⟨η,H,n,.ns,[],λ_ _ h=>h,s,X.Ext.refl _ _,X.φ.ns _ _ _,.ns,Or.inl ⟨rfl,rfl⟩⟩
 ·injection h1 with h1;subst h1;simp only[if_true]at JA;have hlen:NU x.1 (zs.take len).length:=by rw[hx];exact Or.inr ⟨_,_,rfl,by simp[lits]⟩
  have O5:(zs.take len).length=len:=by simp;omega
  by_cases h0:cap=0
  ·have gH:len=0:=by omega
   subst h0;subst gH;obtain⟨g1,g2⟩:=NS hb jU xu 1 a;exact⟨η,H,n,.su b 0 0 1,[],λ_ _ h=>h,s,X.Ext.refl _ _,g1,g2,by simpa using hlen⟩
  ·have AV:=A4 0 (by omega);have A0:=NT AV;obtain⟨blk,off,spot⟩:=a;have akb:spot=none:=by simpa[Addr.add]using A0
   subst akb;have iM:bc η (X.ij .i64 zs) (zs.map λz=>Value.int .i64 z):=by
    clear A4 JA hx Ya AV hlen O5 h
    induction zs with
    | nil=>exact .nil
    | cons z zs ih=>exact .cons _ _ _ _ (.i _ _) ih
   obtain⟨η',H',v,g1,g2,g3,g4,g5⟩:=aj9 (z:=1) (len:=len) (cap:=cap) s (cs:=X.ij .i64 zs) (ys:=zs.map λz=>Value.int .i64 z) (blk:=blk) (off:=off) (by simp;omega) (λi y hi=>by
    have kS:i<zs.length:=by have:=(oj.1 hi).1;simpa using this
    have:=A4 i kS;rw[IN]at this;rw[this];simp only[List.getElem?_map,fO kS,rk,p7]at hi;rw[←hi,fj,fO kS];rfl) iM (by rw[X.Ep];omega) hl
   refine⟨η',H',n.succ,v,zs.take len,g1,g2,g3,?_,g5,hlen⟩;unfold X.eL;rw[O5];have e:=X.acy .i64 zs 0 len;rw[jr,jr]at e;rw[←e];rw[lQ]at g4;exact g4
end
end
section
theorem akc{α:Type}:∀(l:List α) (i:Nat),nth l i=l[i]?:=by
 intro l
 induction l with
 | nil=>intro i;cases i<;>rfl
 | cons a l ih=>intro i;cases i with
  | zero=>rfl
  | succ i=>simp only[nth,rf];exact ih i
theorem akd:∀bs:List UInt8,bp bs<256 ^ bs.length:=by
 intro bs
 induction bs with
 | nil=>simp[bp]
 | cons b l ih=>
  have hb:=b.toNat_lt;simp only[bp,fH,gI];omega
theorem FX(η:Env)(s:ByteArray):al η (X.st s.data.toList) (.string s):=by
 have e0:s.data.toList.length=s.size:=by show s.data.toList.length=s.data.size;rw[Bt]
 have h:=al.s (η:=η) s.size (bp s.data.toList) (by rw[←e0];exact akd _);rw[Pn]at h;have e:X.st s.data.toList=.s s.size (bp s.data.toList):=by unfold X.st;rw[e0]
 rw[e];exact h
theorem ake{ty:Ty}{W:World}{η:Env}{blk off room:Nat}{cs:List V}(h0:∃j y,W.cell? ⟨blk,j,none⟩=some y)(hx:∀i v,cs[i]?=some v->∃y,W.cell? ⟨blk,off+i,none⟩=some y/\al η v y):
 blk<W.heap.size/\gO (WW ty) η (.r cs) ⟨blk,off,room⟩ W.heap[blk]?:=by
 obtain⟨j,y0,h1⟩:=h0;unfold World.cell? at h1;simp only at h1;split at h1
 case h_2=>cases h1
 rename_i c e fr hh;refine⟨(oh.1 hh).1,c,e,fr,hh,λi v hi=>?_⟩;obtain⟨y,h2,hr⟩:=hx i v hi;unfold World.cell? at h2;rw[show W.heap[(⟨blk,off+i,none⟩:Addr).block]?=some (.cells c e fr) from hh]at h2;exact⟨y,by simpa using h2,hr⟩
theorem Xg{ty:Ty}{W:World}{η:Env}{H:Hp}{n:K}(s:St ty W η H n){z len cap blk off:Nat}{cs:List V}(h0:∃j y,W.cell? ⟨blk,j,none⟩=some y)(hx:∀i v,cs[i]?=some v->∃y,W.cell? ⟨blk,off+i,none⟩=some y/\al η v y)
 (hl:cs.length=cap*z)(sV:len<=cap):
 ∃η' H' v,η.le η'/\St ty W η' H' n.succ/\X.Ext H.get n H'.get n.succ/\X.φ H'.get n.succ z v len (cs.take (len*z))/\al η' v (.slice (some ⟨blk,off,none⟩) len cap):=by
 obtain⟨hb,ho⟩:=ake (ty:=ty) (room:=0) h0 hx;obtain⟨η',H',hle,hs,hn,hg⟩:=Xf s (L:=⟨blk,off,0⟩) hb ho;have hlz:len*z<=cs.length:=by rw[hl];exact gX _ sV
 refine⟨η',H',.sl n 0 len cap,hle,hs,by rw[hg];exact(X.Ext.refl _ _).new _,?_,?_⟩
 ·refine X.φ.of (by rw[K.fQ];omega) (row:=cs) ?_ sV (by simp;omega) ?_
  ·rw[hg];simp[X.jg,X.fR,O.row]
  ·rw[X.yh (by omega),jr]
 ·have:=al.sl (η:=η') n 0 len cap ⟨blk,off,0⟩ hn;simpa using this
section
variable {A:Type}{enc:TypeId×Value->A}{P:Program}{W:World}{held:Bool}{ty:Ty}{η:Env}{H:Hp}{n:K}
def bytesOf:Value->List UInt8
 | .string s=>s.data.toList
 | _=>[]
theorem akf(s:St ty W η H n){b:K}{Lb:Loc}{lb:List V}(hb:η b=some Lb)(jU:b.num<n.num)(xu:H.get b=some (.r lb)){t e:TypeId}{f0 f1:Field}{fuel:Nat}{y:Value}{x:DataW A×List MemPlace}
 (ht:P.underlying t=some (.slice e))(he:P.underlying e=some (.struct #[f0,f1]))(ce:P.cellsOf e=2)(o0:f0.offset=0)(o1:f1.offset=1)(c0:P.cellsOf f0.type=1)(c1:P.cellsOf f1.type=1)
 (u0:P.underlying f0.type=some .string)(u1:P.underlying f1.type=some .string)(h:DataW.trod enc P W 0 (λ_=>true) held fuel t [y]=some x):
 ∃η' H' n' v l,η.le η'/\St ty W η' H' n'/\X.Ext H.get n H'.get n'/\X.ep H'.get n' v l/\al η' v y/\((x.1=.nil/\l=[])\/∃sp,x.1=.slice (l.map λp=>.agg [.lit (.string p.1),.lit (.string p.2)]) sp):=by
 rcases open_slice_pairs ht he ce o0 o1 c0 c1 h with ⟨h1,h2⟩ | ⟨a,len,cap,m,fu,V0,V1,D0,D1,P0,P1,h1,_,hl,hm,C8,hx,A4⟩
 ·injection h1 with h1;subst h1;subst h2;exact⟨η,H,n,.ns,[],λ_ _ h=>h,s,X.Ext.refl _ _,X.φ.ns _ _ _,.ns,Or.inl ⟨rfl,rfl⟩⟩
 ·injection h1 with h1;subst h1;simp only[if_true]at C8;subst C8;have each:∀i,i<m->(∃s0,V0 i=.string s0/\D0 i=.lit (.string s0.data.toList))/\∃s1,V1 i=.string s1/\D1 i=.lit (.string s1.data.toList):=λi hi=>by
   obtain⟨_,_,g0,g1⟩:=A4 i hi;obtain⟨s0,k0,GL,_⟩:=DataW.trod_string u0 g0;obtain⟨s1,k1,GM,_⟩:=DataW.trod_string u1 g1;injection k0 with k0;injection k1 with k1;injection GL with GL _;injection GM with GM _;exact⟨⟨s0,k0,GL⟩,s1,k1,GM⟩
  let l:List (X.S×X.S):=(List.range m).map λi=>(bytesOf (V0 i),bytesOf (V1 i));have ll:l.length=m:=by simp[l]
  have lg:∀i (hi:i<l.length),l[i]=(bytesOf (V0 i),bytesOf (V1 i)):=λi hi=>by simp[l]
  have lt:l.take len=(List.range len).map λi=>(bytesOf (V0 i),bytesOf (V1 i)):=by simp only[l];rw[←List.map_take,List.take_range,xR hl]
  have hd:x.1=.slice ((l.take len).map λp=>.agg [.lit (.string p.1),.lit (.string p.2)]) ((List.range (m - len)).map λj=>.agg [D0 (len+j),D1 (len+j)]):=by
   rw[hx,lt,List.map_map];show DataW.slice _ _=DataW.slice _ _;congr 1;apply List.map_congr_left;intro i hi;have kS:i<m:=by have:=List.mem_range.1 hi;omega
   obtain⟨⟨s0,k0,GL⟩,s1,k1,GM⟩:=each i kS;simp[k0,GL,k1,GM,bytesOf]
  by_cases h0:m=0
  ·have gH:len=0:=by omega
   subst h0;subst gH;obtain⟨g1,g2⟩:=NS hb jU xu 2 a;exact⟨η,H,n,.su b 0 0 2,[],λ_ _ h=>h,s,X.Ext.refl _ _,g1,g2,Or.inr ⟨_,by simpa using hd⟩⟩
  ·have AV:=(A4 0 (by omega)).1;rw[Nat.zero_mul]at AV;have Xh:W.cell? a=some (V0 0):=by simpa[Addr.add]using AV
   have A0:=NT Xh;obtain⟨blk,off,spot⟩:=a;simp only at A0;subst A0;obtain⟨η',H',v,g1,g2,g3,g4,g5⟩:=Xg (z:=2) (len:=len) (cap:=m) s (cs:=X.lh l) (blk:=blk) (off:=off) ⟨_,_,Xh⟩ (λi v hi=>by
    have ω:=(oj.1 hi).1;rw[X.Q3,ll]at ω;rw[←akc]at hi;obtain⟨q,hqd⟩:∃q,q=i / 2:=⟨_,rfl⟩;have hq:q<m:=by omega
    obtain⟨e0,e1,_,_⟩:=A4 q hq;obtain⟨⟨s0,k0,_⟩,s1,k1,_⟩:=each q hq;rw[IN]at e0 e1;by_cases hp:i % 2=0
    ·have ei:i=q*2:=by omega
     rw[ei,X.acv (by omega),lg]at hi;injection hi with hi;refine⟨V0 q,by rw[ei];simpa using e0,?_⟩;rw[←hi,k0];exact FX _ _
    ·have ei:i=q*2+1:=by omega
     rw[ei,X.acw (by omega),lg]at hi;injection hi with hi;refine⟨V1 q,by rw[ei];simpa using e1,?_⟩;rw[←hi,k1];exact FX _ _) (by rw[X.Q3,ll]) hl
   refine⟨η',H',n.succ,v,l.take len,g1,g2,g3,?_,g5,Or.inr ⟨_,hd⟩⟩;unfold X.ep;have e:=X.Q4 l 0 len;rw[Nat.zero_mul,jr,jr]at e;rw[←e,show(l.take len).length=len by simp;omega];exact g4
end
end
section
theorem M7{ts:List X.Nd}{mm:List (V×V)}(hm:mm.length=ts.length){k:Nat}(hk:k<=ts.length):X.eZ (ts.take k) (mm.take k)=(X.eZ ts mm).take (k*5):=by
 have h1:(mm.take k).length=(ts.take k).length:=by simp;omega
 have h2:X.eZ ts mm=X.eZ (ts.take k) (mm.take k)++X.eZ (ts.drop k) (mm.drop k):=by rw[←X.Hy h1,Bq,Bq]
 have h3:=X.Hw h1;have h4:(X.eZ (ts.take k) (mm.take k)).length=k*5:=by rw[h3,ri,xR hk]
 rw[h2,List.take_append_of_le_length (by omega)];exact(pZ (by omega)).symm
section
variable {A:Type}{enc:TypeId×Value->A}{P:Program}{W:World}{held:Bool}{ty:Ty}{η:Env}{H:Hp}{n:K}
def GN(d:DataW A)(x:X.Nd):Prop:=
 ∃dv dk,d=.agg [.lit (.int .i64 x.op),.lit (.string x.sort),.lit (.string x.name),dv,dk]/\((dv=.nil/\x.vars=[])\/∃sp,dv=.slice (x.vars.map λp=>.agg [.lit (.string p.1),.lit (.string p.2)]) sp)/\NU dk x.kids.length
structure IP(P:Program)(t e:TypeId)(f0 f1 f2 f3 f4:Field)(tp:TypeId)(g0 g1:Field)(ti:TypeId):Prop where
 ht:P.underlying t=some (.slice e)
 he:P.underlying e=some (.struct #[f0,f1,f2,f3,f4])
 ce:P.cellsOf e=5
 o0:f0.offset=0
 o1:f1.offset=1
 o2:f2.offset=2
 o3:f3.offset=3
 o4:f4.offset=4
 c0:P.cellsOf f0.type=1
 c1:P.cellsOf f1.type=1
 c2:P.cellsOf f2.type=1
 c3:P.cellsOf f3.type=1
 c4:P.cellsOf f4.type=1
 u0:P.underlying f0.type=some (.int .i64)
 u1:P.underlying f1.type=some .string
 u2:P.underlying f2.type=some .string
 u3:P.underlying f3.type=some (.slice tp)
 u4:P.underlying f4.type=some (.slice ti)
 ui:P.underlying ti=some (.int .i64)
 ci:P.cellsOf ti=1
 up:P.underlying tp=some (.struct #[g0,g1])
 cp:P.cellsOf tp=2
 po0:g0.offset=0
 po1:g1.offset=1
 pc0:P.cellsOf g0.type=1
 pc1:P.cellsOf g1.type=1
 pu0:P.underlying g0.type=some .string
 pu1:P.underlying g1.type=some .string
variable {t e tp ti:TypeId}{f0 f1 f2 f3 f4 g0 g1:Field}
theorem akm(T:IP P t e f0 f1 f2 f3 f4 tp g0 g1 ti)(s:St ty W η H n){b:K}{Lb:Loc}{lb:List V}(hb:η b=some Lb)(jU:b.num<n.num)(xu:H.get b=some (.r lb)){fuel:Nat}{cs:List Value}{x:DataW A×List MemPlace}
 (hl:cs.length=5)(h:DataW.trod enc P W 0 (λ_=>true) held fuel e cs=some x):
 ∃η' H' n' nd vv kv,η.le η'/\St ty W η' H' n'/\X.Ext H.get n H'.get n'/\X.ep H'.get n' vv nd.vars/\X.eL H'.get n' .i64 kv nd.kids/\bc η' (X.cR nd vv kv) cs/\GN x.1 nd:=by
 obtain⟨xs,k,hk,NV,_,O6,hf⟩:=DataW.trod_struct T.he h
 match xs,O6,cs,hl with
 | [y0,y1,y2,y3,y4],_,[v0,v1,v2,v3,v4],_=>
  have q0:=hf 0 f0 rfl;have q1:=hf 1 f1 rfl;have q2:=hf 2 f2 rfl;have q3:=hf 3 f3 rfl;have q4:=hf 4 f4 rfl;simp[T.o0,T.c0]at q0;simp[T.o1,T.c1]at q1;simp[T.o2,T.c2]at q2;simp[T.o3,T.c3]at q3;simp[T.o4,T.c4]at q4;obtain⟨op,k0,GL,_⟩:=DataW.trod_int T.u0 q0;obtain⟨s1,k1,GM,_⟩:=DataW.trod_string T.u1 q1;obtain⟨s2,k2,Ea,_⟩:=DataW.trod_string T.u2 q2;obtain⟨η1,H1,n1,vv,vars,a1,a2,a3,a4,a5,a6⟩:=akf s hb jU xu T.u3 T.up T.cp T.po0 T.po1 T.pc0 T.pc1 T.pu0 T.pu1 q3;obtain⟨η2,H2,n2,kv,kids,b1,b2,b3,b4,b5,b6⟩:=aka a2 (a1 _ _ hb) (fk jU a3.1) (by have:=a3.2 b jU;rw[this];exact xu) T.u4 T.ui T.ci q4;injection k0 with k0;injection k1 with k1;injection k2 with k2;subst k0;subst k1;subst k2;refine⟨η2,H2,n2,⟨op,s1.data.toList,s2.data.toList,vars,kids⟩,vv,kv,a1.trans b1,b2,a3.trans b3,a4.ext b3,b4,?_,?_⟩
  ·exact .cons _ _ _ _ (.i _ _) (.cons _ _ _ _ (FX _ _) (.cons _ _ _ _ (FX _ _) (.cons _ _ _ _ (a5.mono b1) (.cons _ _ _ _ b5 .nil))))
  ·refine⟨y3.1,y4.1,?_,a6,b6⟩;rw[NV];simp[GL,GM,Ea]
theorem akn(T:IP P t e f0 f1 f2 f3 f4 tp g0 g1 ti)(s:St ty W η H n){b:K}{Lb:Loc}{lb:List V}(hb:η b=some Lb)(jU:b.num<n.num)(xu:H.get b=some (.r lb)){fuel blk off m:Nat}{D:Nat->DataW A}{Pl:Nat->List MemPlace}
 (hx:∀i,i<m->∃cs,cs.length=5/\(∀j,j<5->∃y,cs[j]?=some y/\W.cell? ⟨blk,off+(i*5+j),none⟩=some y)/\DataW.trod enc P W 0 (λ_=>true) held fuel e cs=some (D i,Pl i)):
 ∀k,k<=m->∃η' H' n' ts mm,η.le η'/\St ty W η' H' n'/\X.Ext H.get n H'.get n'/\ts.length=k/\mm.length=k/\(∀j (h1:j<ts.length) (h2:j<mm.length),X.ep H'.get n' mm[j].1 ts[j].vars/\X.eL H'.get n' .i64 mm[j].2 ts[j].kids/\GN (D j) ts[j])/\(∀i v,(X.eZ ts mm)[i]?=some v->∃y,W.cell? ⟨blk,off+i,none⟩=some y/\al η' v y):=by
 intro k
 induction k with
 | zero=>intro _;exact⟨η,H,n,[],[],λ_ _ h=>h,s,X.Ext.refl _ _,rfl,rfl,λj h=>by simp at h,λi v h=>by simp[X.eZ]at h⟩
 | succ k ih=>
  intro hk;obtain⟨η1,H1,n1,ts,mm,a1,a2,a3,a4,a5,a6,a7⟩:=ih (by omega);obtain⟨cs,c1,c2,c3⟩:=hx k (by omega);obtain⟨η2,H2,n2,nd,vv,kv,b1,b2,b3,b4,b5,b6,b7⟩:=akm T a2 (a1 _ _ hb) (fk jU a3.1) (by rw[a3.2 b jU];exact xu) c1 c3;have NW:mm.length=ts.length:=by omega
  refine⟨η2,H2,n2,ts++[nd],mm++[(vv,kv)],a1.trans b1,b2,a3.trans b3,by simp[a4],by simp[a5],λj h1 h2=>?_,λi v hi=>?_⟩
  ·by_cases hj:j<k
   ·obtain⟨q1,q2,q3⟩:=a6 j (by omega) (by omega);rw[List.getElem_append_left (by omega),List.getElem_append_left (by omega)];exact⟨q1.ext b3,q2.ext b3,q3⟩
   ·have eN:j=k:=by simp[a4]at h1;omega
    subst eN;rw[List.getElem_append_right (by omega),List.getElem_append_right (by omega)];simp only[a4,a5,qc,uq];exact⟨b4,b5,b7⟩
  ·rw[X.Hy NW]at hi;have hlen:=X.Hw NW;by_cases hik:i<k*5
   ·rw[wu (by omega)]at hi;obtain⟨y,h1,h2⟩:=a7 i v hi;exact⟨y,h1,h2.mono b1⟩
   ·rw[zw (by omega)]at hi;rw[hlen,a4]at hi;have e1:X.eZ [nd] [(vv,kv)]=X.cR nd vv kv:=by simp[X.eZ]
    rw[e1]at hi;have h5:i - k*5<5:=by have:=(oj.1 hi).1;simpa[X.cR]using this
    obtain⟨y,h1,h2⟩:=c2 (i - k*5) h5;refine⟨y,by rw[show k*5+(i - k*5)=i by omega]at h2;exact h2,?_⟩;have rl:∀{l:List V} {ys:List Value},bc η2 l ys->∀{i:Nat} {v:V} {y:Value},l[i]?=some v->ys[i]?=some y->al η2 v y:=by
     intro l
     induction l with
     | nil=>intro ys _ i v y h;simp at h
     | cons a l ih=>
      intro ys hr i v y h h';cases hr with
      | cons _ z _ ys h1 h2=>
       cases i with
       | zero=>simp at h h';subst h;subst h';exact h1
       | succ i=>exact ih h2 (i:=i) (by simpa using h) (by simpa using h')
    exact rl b6 hi h1
theorem Xi(T:IP P t e f0 f1 f2 f3 f4 tp g0 g1 ti)(s:St ty W η H n){b:K}{Lb:Loc}{lb:List V}(hb:η b=some Lb)(jU:b.num<n.num)(xu:H.get b=some (.r lb)){fuel:Nat}{y:Value}{x:DataW A×List MemPlace}
 (h:DataW.trod enc P W 0 (λ_=>true) held fuel t [y]=some x):
 ∃η' H' n' v ts,η.le η'/\St ty W η' H' n'/\X.Ext H.get n H'.get n'/\X.dA H'.get n' v ts/\al η' v y/\((x.1=.nil/\ts=[])\/∃es sp,x.1=.slice es sp/\es.length=ts.length/\∀j (h1:j<ts.length) (h2:j<es.length),GN es[j] ts[j]):=by
 rcases open_slice T.ht h with ⟨h1,h2⟩ | ⟨a,len,cap,m,fu,D,Pl,h1,_,hl,hm,C8,hx,zY⟩
 ·injection h1 with h1;subst h1;subst h2;exact⟨η,H,n,.ns,[],λ_ _ h=>h,s,X.Ext.refl _ _,⟨[],rfl,X.φ.ns _ _ _,λi hi=>by simp at hi⟩,.ns,Or.inl ⟨rfl,rfl⟩⟩
 ·injection h1 with h1;subst h1;simp only[if_true]at C8;subst C8;rw[T.ce]at zY;have hd:∀ts:List X.Nd,ts.length=len->(∀j (h1:j<ts.length),GN (D j) ts[j])->((x.1=.nil/\ts=[])\/∃es sp,x.1=.slice es sp/\es.length=ts.length/\∀j (h1:j<ts.length) (h2:j<es.length),GN es[j] ts[j]):=λts O5 qV=>by
   refine Or.inr ⟨_,_,by rw[hx],by simp[O5],λj h1 h2=>?_⟩;simpa using qV j h1
  by_cases h0:m=0
  ·have gH:len=0:=by omega
   subst h0;subst gH;obtain⟨xy,YJ⟩:=NS hb jU xu 5 a;exact⟨η,H,n,.su b 0 0 5,[],λ_ _ h=>h,s,X.Ext.refl _ _,⟨[],rfl,xy,λi hi=>by simp at hi⟩,YJ,hd [] rfl (λj h1=>by simp at h1)⟩
  ·obtain⟨cs0,q1,q2⟩:=zY 0 (by omega);obtain⟨_,q3,q4⟩:=World.cells?_some q1;have q5:=q4 0 (by omega);have q6:W.cell? a=some (cs0[0]'(by omega)):=by simpa[Addr.add,q3]using q5
   have A0:=NT q6;obtain⟨blk,off,spot⟩:=a;simp only at A0;subst A0;obtain⟨η1,H1,n1,ts,mm,a1,a2,a3,a4,a5,a6,a7⟩:=akn T s hb jU xu (fuel:=fu) (blk:=blk) (off:=off) (m:=m) (D:=D) (Pl:=Pl) (λi hi=>by obtain⟨cs,r1,r2⟩:=zY i hi;obtain⟨_,r3,r4⟩:=World.cells?_some r1;refine⟨cs,r3,λj hj=>?_,r2⟩;have r5:=r4 j hj;rw[IN,IN]at r5;refine⟨cs[j]'(by omega),by simp[r3,hj],?_⟩;rw[show off+(i*5+j)=off+i*5+j by omega,r5];simp[r3,hj]) m (χ _)
   have NW:mm.length=ts.length:=by omega
   obtain⟨η2,H2,v,b1,b2,b3,b4,b5⟩:=Xg (z:=5) (len:=len) (cap:=m) a2 (cs:=X.eZ ts mm) (blk:=blk) (off:=off) ⟨_,_,q6⟩ a7 (by rw[X.Hw NW];omega) hl;refine⟨η2,H2,n1.succ,v,ts.take len,a1.trans b1,b2,a3.trans b3,?_,b5,hd _ (by simp;omega) (λj h1=>?_)⟩
   ·have oY:(ts.take len).length=len:=by simp;omega
    refine⟨mm.take len,by simp;omega,?_,λi hi=>?_⟩
    ·rw[M7 NW (by omega),oY];exact b4
    ·obtain⟨p1,p2,_⟩:=a6 i (by simp at hi;omega) (by simp at hi;omega);simp only[List.getElem_take];exact⟨p1.ext b3,p2.ext b3⟩
   ·have hj:j<ts.length:=by simp at h1;omega
    have:=(a6 j hj (by omega)).2.2;simpa using this
end
end
section
section
variable {A:Type}{enc:TypeId×Value->A}{P:Program}{W:World}{sp:Nat->Bool}{held:Bool}{η:Env}
def NX:DataW A->V
 | .lit (.int k n)=>.i k n
 | .lit (.string bs)=>X.st bs
 | _=>.q
def yQ(enc:TypeId×Value->A)(P:Program)(W:World)(sp:Nat->Bool)(held:Bool)(η:Env)(dv:DataW A->V)(t:TypeId):Prop:=
 ∀fuel y x,DataW.trod enc P W 0 sp held fuel t [y]=some x->al η (dv x.1) y
theorem IQ{t:TypeId}{k:IntKind}{dv:DataW A->V}(u:P.underlying t=some (.int k))(h:∀n,dv (.lit (.int k n))=.i k n):yQ enc P W sp held η dv t:=λfuel y x hx=>by obtain⟨n,h1,h2,_⟩:=DataW.trod_int u hx;injection h1 with h1;subst h1;rw[h2];show al η (dv (.lit (.int k n))) _;rw[h];exact .i _ _
theorem A5{t:TypeId}{dv:DataW A->V}(u:P.underlying t=some .string)(h:∀bs,dv (.lit (.string bs))=X.st bs):yQ enc P W sp held η dv t:=λfuel y x hx=>by obtain⟨s,h1,h2,_⟩:=DataW.trod_string u hx;injection h1 with h1;subst h1;rw[h2];show al η (dv (.lit (.string _))) _;rw[h];exact FX _ _
def IS(enc:TypeId×Value->A)(P:Program)(W:World)(sp:Nat->Bool)(held:Bool)(η:Env)(dv:DataW A->List V)(t:TypeId)(sz:Nat):Prop:=
 ∀fuel cs x,cs.length=sz->DataW.trod enc P W 0 sp held fuel t cs=some x->bc η (dv x.1) cs
theorem IT{dv:DataW A->V}{t:TypeId}(h:yQ enc P W sp held η dv t):IS enc P W sp held η (λd=>[dv d]) t 1:=λfuel cs x hl hx=>by
 match cs,hl with
 | [y],_=>exact .cons _ _ _ _ (h fuel y x hx) .nil
def ako(dv:DataW A->V):DataW A->List V
 | .agg [a,b,c,d]=>[dv a,dv b,dv c,dv d]
 | _=>[]
theorem Xj{dv:DataW A->V}{t:TypeId}{f0 f1 f2 f3:Field}(ht:P.underlying t=some (.struct #[f0,f1,f2,f3]))(o0:f0.offset=0)(o1:f1.offset=1)(o2:f2.offset=2)(o3:f3.offset=3)
 (c0:P.cellsOf f0.type=1)(c1:P.cellsOf f1.type=1)(c2:P.cellsOf f2.type=1)(c3:P.cellsOf f3.type=1)
 (s0:yQ enc P W sp held η dv f0.type)(s1:yQ enc P W sp held η dv f1.type)(s2:yQ enc P W sp held η dv f2.type)(s3:yQ enc P W sp held η dv f3.type):IS enc P W sp held η (ako dv) t 4:=λfuel cs x hl hx=>by
 obtain⟨xs,k,hk,NV,_,O6,hf⟩:=DataW.trod_struct ht hx
 match xs,O6,cs,hl with
 | [y0,y1,y2,y3],_,[v0,v1,v2,v3],_=>
  have q0:=hf 0 f0 rfl;have q1:=hf 1 f1 rfl;have q2:=hf 2 f2 rfl;have q3:=hf 3 f3 rfl;simp[o0,c0]at q0;simp[o1,c1]at q1;simp[o2,c2]at q2;simp[o3,c3]at q3;rw[NV];exact .cons _ _ _ _ (s0 _ _ _ q0) (.cons _ _ _ _ (s1 _ _ _ q1) (.cons _ _ _ _ (s2 _ _ _ q2) (.cons _ _ _ _ (s3 _ _ _ q3) .nil)))
theorem akp{η:Env}:∀{l:List V} {ys:List Value},bc η l ys->∀{i:Nat} {v:V},l[i]?=some v->∃y,ys[i]?=some y/\al η v y:=by
 intro l
 induction l with
 | nil=>intro ys _ i v h;simp at h
 | cons a l ih=>
  intro ys hr i v h;cases hr with
  | cons _ y _ ys h1 h2=>
   cases i with
   | zero=>simp at h;subst h;exact⟨y,rfl,h1⟩
   | succ i=>simpa using ih h2 (i:=i) (by simpa using h)
theorem akq{dv:DataW A->List V}{t e:TypeId}{m sz fuel:Nat}{cs:List Value}{d:DataW A}{ps:List MemPlace}{ds:List (DataW A)}{l:List V}(eF:0<sz)(ht:P.underlying t=some (.array m e))(L3:P.cellsOf e=sz)(Zk:P.cellsOf t=m*sz)
 (he:IS enc P W sp held η dv e sz)(h:DataW.trod enc P W 0 sp held fuel t cs=some (d,ps))(hd:d=.agg ds)(hl:∀q,q<m->(l.drop (q*sz)).take sz=dv (ds.getD q .nil))(tt:l.length=m*sz):
 ∀(i:Nat) (v:V),l[i]?=some v->∃y,cs[i]?=some y/\al η v y:=by
 intro i v hi;have oK:i<m*sz:=by rw[←tt];exact(oj.1 hi).1
 have hq:i / sz<m:=(Bp eF).2 oK;have hr:i % sz<sz:=lS _ eF;have hir:i / sz*sz+i % sz=i:=by rw[dP];exact xO i sz
 obtain⟨xs,fu,_,NV,ju,O6,zY⟩:=DataW.trod_array ht h;rw[L3]at zY;rw[Zk]at ju;injection NV with hd1 _;rw[hd1]at hd;injection hd with ug;generalize i / sz=q at*;generalize i % sz=r at*;have hqx:q<xs.length:=by omega
 have gU:=zY q hq;rw[fO hqx]at gU;have hqs:q*sz+sz<=m*sz:=by rw[←xS];exact gX _ hq
 have iM:=he fu _ _ (by rw[ri,uv,ju];omega) gU;have hdq:ds.getD q .nil=xs[q].1:=by rw[←ug,fj,List.getElem?_map,fO hqx];rfl
 rw[←hdq,←hl q hq]at iM;have hpi:((l.drop (q*sz)).take sz)[r]?=some v:=by rw[List.getElem?_take_of_lt hr,Bw,hir];exact hi
 obtain⟨y,h1,h2⟩:=akp iM hpi;rw[List.getElem?_take_of_lt hr,Bw,hir]at h1;exact⟨y,h1,h2⟩
end
end
end Go.Ev
