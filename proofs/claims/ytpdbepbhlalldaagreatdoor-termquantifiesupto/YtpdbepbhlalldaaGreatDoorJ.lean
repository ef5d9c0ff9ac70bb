/- A part of the proof. -/
import Derived.Deep.SlicePairs
import Derived.ChangeSlices
import Derived.OpenShut
import Derived.Test.YtpdbepbhlalldaaGreatDoorF
import Derived.Test.YtpdbepbhlalldaaGreatDoorI
set_option linter.all false
namespace Go.Ev
open Go
structure St(ty:Ty)(W:World)(η:Env)(H:Hp)(n:K):Prop where
 rep:bM (WW ty) η H n W
 ro:∀k o,H.get k=some o->∃l,o=.r l
theorem XN{ty:Ty}{W:World}{η:Env}{H:Hp}{n:K}(s:St ty W η H n){l:List V}{L:Loc}(hb:L.blk<W.heap.size)(ho:ic (WW ty) η (.r l) L W.heap[L.blk]?):
 ∃η' H',η.le η'/\St ty W η' H' n.succ/\η' n=some L/\H'.get=X.hp H.get n (some (.r l)):=by
 have L3:η n=none:=s.rep.free n (Γ _);let η':Env:=λk=>if k=n then some L else η k
 have hle:η.le η':=λk M h=>by
  show(if k=n then some L else η k)=some M
  by_cases hk:k=n
  ·rw[hk,L3]at h;cases h
  ·rw[ai hk];exact h
 have hn:η' n=some L:=by show(if n=n then some L else η n)=_;rw[az rfl]
 have tB:(H.put (some (.r l)) n).get=X.hp H.get n (some (.r l)):=X.jr H n _;refine⟨η',H.put (some (.r l)) n,hle,⟨⟨λk o hk=>?_,λk k' o o' M M' bC hk hm=>?_,λk hk=>?_⟩,λk o hk=>?_⟩,hn,tB⟩
 ·rw[tB]at hk;by_cases e:k=n
  ·subst e;rw[X.gw]at hk;injection hk with hk;subst hk;exact⟨L,hn,hb,ho.mono hle⟩
  ·rw[X.mh _ _ e]at hk;obtain⟨M,h1,h2,h3⟩:=s.rep.obj k o hk;exact⟨M,hle _ _ h1,h2,h3.mono hle⟩
 ·exfalso;rw[tB]at hk;by_cases e:k=n
  ·subst e;rw[X.gw]at hk;injection hk with hk;subst hk;cases hm
  ·rw[X.mh _ _ e]at hk;obtain⟨l',rfl⟩:=s.ro k o hk;cases hm
 ·have h1:n.num<k.num:=by rw[K.fH]at hk;omega
  show(if k=n then some L else η k)=none
  rw[ai (λe=>by rw[e]at h1;omega)];exact s.rep.free k (by omega)
 ·rw[tB]at hk;by_cases e:k=n
  ·subst e;rw[X.gw]at hk;injection hk with hk;exact⟨l,hk.symm⟩
  ·rw[X.mh _ _ e]at hk;exact s.ro k o hk
theorem ak3{ty:Ty}{W:World}{η:Env}{blk off room:Nat}{l:List V}{ys:List Value}(h0:0<ys.length)(hc:∀i y,ys[i]?=some y->W.cell? ⟨blk,off+i,none⟩=some y)(hv:bB η l ys):
 blk<W.heap.size/\ic (WW ty) η (.r l) ⟨blk,off,room⟩ W.heap[blk]?:=by
 obtain⟨y0,Y2⟩:∃y,ys[0]?=some y:=⟨ys[0],by simp[h0]⟩;have h1:=hc 0 y0 Y2;unfold World.cell? at h1;simp only at h1;split at h1
 case h_2=>cases h1
 rename_i c e fr hh;refine⟨(oC.1 hh).1,c,e,fr,hh,λi v hi=>?_⟩;have rl:∀{l:List V} {ys:List Value},bB η l ys->∀{i:Nat} {v:V},l[i]?=some v->∃y,ys[i]?=some y/\aC η v y:=by
  intro l
  induction l with
  | nil=>intro ys _ i v h;simp at h
  | cons a l ih=>
   intro ys hr i v h;cases hr with
   | cons _ y _ ys h1 h2=>
    cases i with
    | zero=>simp at h;subst h;exact⟨y,rfl,h1⟩
    | succ i=>simpa using ih h2 (i:=i) (by simpa using h)
 obtain⟨y,hy,hr⟩:=rl hv hi;have h2:=hc i y hy;unfold World.cell? at h2;rw[show W.heap[(⟨blk,off+i,none⟩:Addr).block]?=some (.cells c e fr) from hh]at h2;exact⟨y,by simpa using h2,hr⟩
theorem I3{η:Env}{H:Hp}{n:K}{b:K}{L:Loc}{l:List V}(hb:η b=some L)(gz:b.num<n.num)(hr:H.get b=some (.r l))(z:Nat)(A:Addr):X.ρ H.get n z (.su b 0 0 z) 0 []/\aC η (.su b 0 0 z) (.slice (some A) 0 0):=by
 refine⟨⟨by simp,Or.inr ⟨⟨b,0,0,Or.inr U,gz⟩,l,?_,?_⟩⟩,.se b 0 z A L hb⟩
 ·show X.ja H.get b=some l;simp[X.ja,hr,O.row]
 ·show dt l 0 (0*z)=some [];rw[Nat.zero_mul];rw[X.xU (by omega)];simp
end Go.Ev
namespace Go.Ev
open Go Go.ChangeShapes Go.Deep
section
theorem I4{W:World}{a:Addr}{y:Value}(h:W.cell? a=some y):a.spot=none:=by
 unfold World.cell? at h;split at h
 ·split at h
  ·cases h
  ·rename_i h2;cases hs:a.spot with
   | none=>rfl
   | some _=>rw[hs]at h2;exact absurd rfl h2
 ·cases h
theorem FI(b o n:Nat):(⟨b,o,none⟩:Addr).add n=⟨b,o+n,none⟩:=by
 unfold Addr.add;by_cases h:n=0
 ·subst h;simp
 ·rw[ai h]
theorem ak4{ty:Ty}{W:World}{η:Env}{H:Hp}{n:K}(s:St ty W η H n){z len cap blk off:Nat}{cs:List V}{ys:List Value}(h0:0<ys.length)(hc:∀i y,ys[i]?=some y->W.cell? ⟨blk,off+i,none⟩=some y)(hv:bB η cs ys)
 (hl:cs.length=cap*z)(sZ:len<=cap):
 ∃η' H' v,η.le η'/\St ty W η' H' n.succ/\X.Ext H.get n H'.get n.succ/\X.ρ H'.get n.succ z v len (cs.take (len*z))/\aC η' v (.slice (some ⟨blk,off,none⟩) len cap):=by
 obtain⟨hb,ho⟩:=ak3 (ty:=ty) (room:=0) h0 hc hv;obtain⟨η',H',hle,hs,hn,hg⟩:=XN s (L:=⟨blk,off,0⟩) hb ho;have hlz:len*z<=cs.length:=by rw[hl];exact iw _ sZ
 refine⟨η',H',.sl n 0 len cap,hle,hs,by rw[hg];exact(X.Ext.refl _ _).new _,?_,?_⟩
 ·refine X.ρ.of (by rw[K.fH];omega) (row:=cs) ?_ sZ (by simp;omega) ?_
  ·rw[hg];simp[X.ja,X.gw,O.row]
  ·rw[X.xU (by omega),jS]
 ·have:=aC.sl (η:=η') n 0 len cap ⟨blk,off,0⟩ hn;simpa using this
section
variable {A:Type}{enc:TypeId×Value->A}{P:Program}{W:World}{held:Bool}{ty:Ty}{η:Env}{H:Hp}{n:K}
def N1(d:DataW A)(m:Nat):Prop:=(d=.nil/\m=0)\/∃es sp,d=.slice es sp/\es.length=m
theorem ak5(s:St ty W η H n){b:K}{Lb:Loc}{lb:List V}(hb:η b=some Lb)(gz:b.num<n.num)(qb:H.get b=some (.r lb)){t e:TypeId}{fuel:Nat}{y:Value}{x:DataW A×List MemPlace}
 (ht:P.underlying t=some (.slice e))(he:P.underlying e=some (.int .i64))(hc:P.cellsOf e=1)(h:DataW.trod enc P W 0 (λ_=>true) held fuel t [y]=some x):
 ∃η' H' n' v l,η.le η'/\St ty W η' H' n'/\X.Ext H.get n H'.get n'/\X.gh H'.get n' .i64 v l/\aC η' v y/\N1 x.1 l.length:=by
 rcases open_ints ht he hc h with ⟨h1,h2⟩ | ⟨a,len,cap,zs,h1,_,hl,hm,hzl,hx,AW,YF⟩
 ·injection h1 with h1;subst h1;subst h2;exact⟨η,H,n,.ns,[],λ_ _ h=>h,s,X.Ext.refl _ _,X.ρ.ns _ _ _,.ns,Or.inl ⟨rfl,rfl⟩⟩
 ·injection h1 with h1;subst h1;simp only[if_true]at hzl;have hlen:N1 x.1 (zs.take len).length:=by rw[hx];exact Or.inr ⟨_,_,rfl,by simp[lits]⟩
  have J0:(zs.take len).length=len:=by simp;omega
  by_cases h0:cap=0
  ·have gE:len=0:=by omega
   subst h0;subst gE;obtain⟨g1,g2⟩:=I3 hb gz qb 1 a;exact⟨η,H,n,.su b 0 0 1,[],λ_ _ h=>h,s,X.Ext.refl _ _,g1,g2,by simpa using hlen⟩
  ·have JY:=AW 0 (by omega);have wX:=I4 JY;obtain⟨blk,off,spot⟩:=a;have ak7:spot=none:=by simpa[Addr.add]using wX
   subst ak7;have jb:bB η (X.eI .i64 zs) (zs.map λz=>Value.int .i64 z):=by
    clear AW hzl hx YF JY hlen J0 h
    induction zs with
    | nil=>exact .nil
    | cons z zs ih=>exact .cons _ _ _ _ (.i _ _) ih
   obtain⟨η',H',v,g1,g2,g3,g4,g5⟩:=ak4 (z:=1) (len:=len) (cap:=cap) s (cs:=X.eI .i64 zs) (ys:=zs.map λz=>Value.int .i64 z) (blk:=blk) (off:=off) (by simp;omega) (λi y hi=>by
    have mU:i<zs.length:=by have:=(nL.1 hi).1;simpa using this
    have:=AW i mU;rw[FI]at this;rw[this];simp only[List.getElem?_map,gP mU,rz,rq]at hi;rw[←hi,fF,gP mU];rfl) jb (by rw[X.Ee];omega) hl
   refine⟨η',H',n.succ,v,zs.take len,g1,g2,g3,?_,g5,hlen⟩;unfold X.gh;rw[J0];have e:=X.ac6 .i64 zs 0 len;rw[jS,jS]at e;rw[←e];rw[ka]at g4;exact g4
end
end
section
theorem ak8{α:Type}:∀(l:List α) (i:Nat),nth l i=l[i]?:=by
 intro l
 induction l with
 | nil=>intro i;cases i<;>rfl
 | cons a l ih=>intro i;cases i with
  | zero=>rfl
  | succ i=>simp only[nth,rn];exact ih i
theorem ak9:∀bs:List UInt8,bR bs<256 ^ bs.length:=by
 intro bs
 induction bs with
 | nil=>simp[bR]
 | cons b l ih=>
  have hb:=b.toNat_lt;simp only[bR,fG,gW];omega
theorem FJ(η:Env)(s:ByteArray):aC η (X.st s.data.toList) (.string s):=by
 have e0:s.data.toList.length=s.size:=by show s.data.toList.length=s.data.size;rw[Bq]
 have h:=aC.s (η:=η) s.size (bR s.data.toList) (by rw[←e0];exact ak9 _);rw[PI]at h;have e:X.st s.data.toList=.s s.size (bR s.data.toList):=by unfold X.st;rw[e0]
 rw[e];exact h
theorem ala{ty:Ty}{W:World}{η:Env}{blk off room:Nat}{cs:List V}(h0:∃j y,W.cell? ⟨blk,j,none⟩=some y)(hx:∀i v,cs[i]?=some v->∃y,W.cell? ⟨blk,off+i,none⟩=some y/\aC η v y):
 blk<W.heap.size/\ic (WW ty) η (.r cs) ⟨blk,off,room⟩ W.heap[blk]?:=by
 obtain⟨j,y0,h1⟩:=h0;unfold World.cell? at h1;simp only at h1;split at h1
 case h_2=>cases h1
 rename_i c e fr hh;refine⟨(oC.1 hh).1,c,e,fr,hh,λi v hi=>?_⟩;obtain⟨y,h2,hr⟩:=hx i v hi;unfold World.cell? at h2;rw[show W.heap[(⟨blk,off+i,none⟩:Addr).block]?=some (.cells c e fr) from hh]at h2;exact⟨y,by simpa using h2,hr⟩
theorem N2{ty:Ty}{W:World}{η:Env}{H:Hp}{n:K}(s:St ty W η H n){z len cap blk off:Nat}{cs:List V}(h0:∃j y,W.cell? ⟨blk,j,none⟩=some y)(hx:∀i v,cs[i]?=some v->∃y,W.cell? ⟨blk,off+i,none⟩=some y/\aC η v y)
 (hl:cs.length=cap*z)(sZ:len<=cap):
 ∃η' H' v,η.le η'/\St ty W η' H' n.succ/\X.Ext H.get n H'.get n.succ/\X.ρ H'.get n.succ z v len (cs.take (len*z))/\aC η' v (.slice (some ⟨blk,off,none⟩) len cap):=by
 obtain⟨hb,ho⟩:=ala (ty:=ty) (room:=0) h0 hx;obtain⟨η',H',hle,hs,hn,hg⟩:=XN s (L:=⟨blk,off,0⟩) hb ho;have hlz:len*z<=cs.length:=by rw[hl];exact iw _ sZ
 refine⟨η',H',.sl n 0 len cap,hle,hs,by rw[hg];exact(X.Ext.refl _ _).new _,?_,?_⟩
 ·refine X.ρ.of (by rw[K.fH];omega) (row:=cs) ?_ sZ (by simp;omega) ?_
  ·rw[hg];simp[X.ja,X.gw,O.row]
  ·rw[X.xU (by omega),jS]
 ·have:=aC.sl (η:=η') n 0 len cap ⟨blk,off,0⟩ hn;simpa using this
section
variable {A:Type}{enc:TypeId×Value->A}{P:Program}{W:World}{held:Bool}{ty:Ty}{η:Env}{H:Hp}{n:K}
def bytesOf:Value->List UInt8
 | .string s=>s.data.toList
 | _=>[]
theorem XO(s:St ty W η H n){b:K}{Lb:Loc}{lb:List V}(hb:η b=some Lb)(gz:b.num<n.num)(qb:H.get b=some (.r lb)){t e:TypeId}{f0 f1:Field}{fuel:Nat}{y:Value}{x:DataW A×List MemPlace}
 (ht:P.underlying t=some (.slice e))(he:P.underlying e=some (.struct #[f0,f1]))(ce:P.cellsOf e=2)(o0:f0.offset=0)(o1:f1.offset=1)(c0:P.cellsOf f0.type=1)(c1:P.cellsOf f1.type=1)
 (u0:P.underlying f0.type=some .string)(u1:P.underlying f1.type=some .string)(h:DataW.trod enc P W 0 (λ_=>true) held fuel t [y]=some x):
 ∃η' H' n' v l,η.le η'/\St ty W η' H' n'/\X.Ext H.get n H'.get n'/\X.fC H'.get n' v l/\aC η' v y/\((x.1=.nil/\l=[])\/∃sp,x.1=.slice (l.map λp=>.agg [.lit (.string p.1),.lit (.string p.2)]) sp):=by
 rcases open_slice_pairs ht he ce o0 o1 c0 c1 h with ⟨h1,h2⟩ | ⟨a,len,cap,m,fu,V0,V1,D0,D1,P0,P1,h1,_,hl,hm,wM,hx,AW⟩
 ·injection h1 with h1;subst h1;subst h2;exact⟨η,H,n,.ns,[],λ_ _ h=>h,s,X.Ext.refl _ _,X.ρ.ns _ _ _,.ns,Or.inl ⟨rfl,rfl⟩⟩
 ·injection h1 with h1;subst h1;simp only[if_true]at wM;subst wM;have each:∀i,i<m->(∃s0,V0 i=.string s0/\D0 i=.lit (.string s0.data.toList))/\∃s1,V1 i=.string s1/\D1 i=.lit (.string s1.data.toList):=λi hi=>by
   obtain⟨_,_,g0,g1⟩:=AW i hi;obtain⟨s0,k0,GD,_⟩:=DataW.trod_string u0 g0;obtain⟨s1,k1,GF,_⟩:=DataW.trod_string u1 g1;injection k0 with k0;injection k1 with k1;injection GD with GD _;injection GF with GF _;exact⟨⟨s0,k0,GD⟩,s1,k1,GF⟩
  let l:List (X.S×X.S):=(List.range m).map λi=>(bytesOf (V0 i),bytesOf (V1 i));have ll:l.length=m:=by simp[l]
  have lg:∀i (hi:i<l.length),l[i]=(bytesOf (V0 i),bytesOf (V1 i)):=λi hi=>by simp[l]
  have lt:l.take len=(List.range len).map λi=>(bytesOf (V0 i),bytesOf (V1 i)):=by simp only[l];rw[←List.map_take,List.take_range,xD hl]
  have hd:x.1=.slice ((l.take len).map λp=>.agg [.lit (.string p.1),.lit (.string p.2)]) ((List.range (m - len)).map λj=>.agg [D0 (len+j),D1 (len+j)]):=by
   rw[hx,lt,List.map_map];show DataW.slice _ _=DataW.slice _ _;congr 1;apply List.map_congr_left;intro i hi;have mU:i<m:=by have:=List.mem_range.1 hi;omega
   obtain⟨⟨s0,k0,GD⟩,s1,k1,GF⟩:=each i mU;simp[k0,GD,k1,GF,bytesOf]
  by_cases h0:m=0
  ·have gE:len=0:=by omega
   subst h0;subst gE;obtain⟨g1,g2⟩:=I3 hb gz qb 2 a;exact⟨η,H,n,.su b 0 0 2,[],λ_ _ h=>h,s,X.Ext.refl _ _,g1,g2,Or.inr ⟨_,by simpa using hd⟩⟩
  ·have JY:=(AW 0 (by omega)).1;rw[Nat.zero_mul]at JY;have XP:W.cell? a=some (V0 0):=by simpa[Addr.add]using JY
   have wX:=I4 XP;obtain⟨blk,off,spot⟩:=a;simp only at wX;subst wX;obtain⟨η',H',v,g1,g2,g3,g4,g5⟩:=N2 (z:=2) (len:=len) (cap:=m) s (cs:=X.px l) (blk:=blk) (off:=off) ⟨_,_,XP⟩ (λi v hi=>by
    have ψ:=(nL.1 hi).1;rw[X.Rs,ll]at ψ;rw[←ak8]at hi;obtain⟨q,hqd⟩:∃q,q=i / 2:=⟨_,rfl⟩;have hq:q<m:=by omega
    obtain⟨e0,e1,_,_⟩:=AW q hq;obtain⟨⟨s0,k0,_⟩,s1,k1,_⟩:=each q hq;rw[FI]at e0 e1;by_cases hp:i % 2=0
    ·have ei:i=q*2:=by omega
     rw[ei,X.ac3 (by omega),lg]at hi;injection hi with hi;refine⟨V0 q,by rw[ei];simpa using e0,?_⟩;rw[←hi,k0];exact FJ _ _
    ·have ei:i=q*2+1:=by omega
     rw[ei,X.ac4 (by omega),lg]at hi;injection hi with hi;refine⟨V1 q,by rw[ei];simpa using e1,?_⟩;rw[←hi,k1];exact FJ _ _) (by rw[X.Rs,ll]) hl
   refine⟨η',H',n.succ,v,l.take len,g1,g2,g3,?_,g5,Or.inr ⟨_,hd⟩⟩;unfold X.fC;have e:=X.Ru l 0 len;rw[Nat.zero_mul,jS,jS]at e;rw[←e,show(l.take len).length=len by simp;omega];exact g4
end
end
section
theorem Nh{ts:List X.Nd}{mm:List (V×V)}(hm:mm.length=ts.length){k:Nat}(hk:k<=ts.length):X.dc (ts.take k) (mm.take k)=(X.dc ts mm).take (k*5):=by
 have h1:(mm.take k).length=(ts.take k).length:=by simp;omega
 have h2:X.dc ts mm=X.dc (ts.take k) (mm.take k)++X.dc (ts.drop k) (mm.drop k):=by rw[←X.xX h1,Bk,Bk]
 have h3:=X.wm h1;have h4:(X.dc (ts.take k) (mm.take k)).length=k*5:=by rw[h3,qn,xD hk]
 rw[h2,List.take_append_of_le_length (by omega)];exact(pF (by omega)).symm
section
variable {A:Type}{enc:TypeId×Value->A}{P:Program}{W:World}{held:Bool}{ty:Ty}{η:Env}{H:Hp}{n:K}
def Bf(d:DataW A)(x:X.Nd):Prop:=
 ∃dv dk,d=.agg [.lit (.int .i64 x.op),.lit (.string x.sort),.lit (.string x.name),dv,dk]/\((dv=.nil/\x.vars=[])\/∃sp,dv=.slice (x.vars.map λp=>.agg [.lit (.string p.1),.lit (.string p.2)]) sp)/\N1 dk x.kids.length
structure I5(P:Program)(t e:TypeId)(f0 f1 f2 f3 f4:Field)(tp:TypeId)(g0 g1:Field)(ti:TypeId):Prop where
 ht:P.underlying t=some (.slice e)
 he:P.underlying e=some (.struct #[f0,f1,f2,f3,f4])
 ce:P.cellsOf e=5
 o0:f0.offset=0
 o1:f1.offset=1
 o2:f2.offset=2
 o3:f3.offset=3
 o4:f4.offset=4
 c0:P.cellsOf f0.type=1
 c1:P.cellsOf f1.type=1
 c2:P.cellsOf f2.type=1
 c3:P.cellsOf f3.type=1
 c4:P.cellsOf f4.type=1
 u0:P.underlying f0.type=some (.int .i64)
 u1:P.underlying f1.type=some .string
 u2:P.underlying f2.type=some .string
 u3:P.underlying f3.type=some (.slice tp)
 u4:P.underlying f4.type=some (.slice ti)
 ui:P.underlying ti=some (.int .i64)
 ci:P.cellsOf ti=1
 up:P.underlying tp=some (.struct #[g0,g1])
 cp:P.cellsOf tp=2
 ZM:g0.offset=0
 ZN:g1.offset=1
 ZO:P.cellsOf g0.type=1
 ZP:P.cellsOf g1.type=1
 ZQ:P.underlying g0.type=some .string
 ZR:P.underlying g1.type=some .string
variable {t e tp ti:TypeId}{f0 f1 f2 f3 f4 g0 g1:Field}
theorem alb(T:I5 P t e f0 f1 f2 f3 f4 tp g0 g1 ti)(s:St ty W η H n){b:K}{Lb:Loc}{lb:List V}(hb:η b=some Lb)(gz:b.num<n.num)(qb:H.get b=some (.r lb)){fuel:Nat}{cs:List Value}{x:DataW A×List MemPlace}
 (hl:cs.length=5)(h:DataW.trod enc P W 0 (λ_=>true) held fuel e cs=some x):
 ∃η' H' n' nd vv kv,η.le η'/\St ty W η' H' n'/\X.Ext H.get n H'.get n'/\X.fC H'.get n' vv nd.vars/\X.gh H'.get n' .i64 kv nd.kids/\bB η' (X.dT nd vv kv) cs/\Bf x.1 nd:=by
 obtain⟨xs,k,hk,N3,_,JZ,hf⟩:=DataW.trod_struct T.he h
 match xs,JZ,cs,hl with
 | [y0,y1,y2,y3,y4],_,[v0,v1,v2,v3,v4],_=>
  have q0:=hf 0 f0 rfl;have q1:=hf 1 f1 rfl;have q2:=hf 2 f2 rfl;have q3:=hf 3 f3 rfl;have q4:=hf 4 f4 rfl;simp[T.o0,T.c0]at q0;simp[T.o1,T.c1]at q1;simp[T.o2,T.c2]at q2;simp[T.o3,T.c3]at q3;simp[T.o4,T.c4]at q4;obtain⟨op,k0,GD,_⟩:=DataW.trod_int T.u0 q0;obtain⟨s1,k1,GF,_⟩:=DataW.trod_string T.u1 q1;obtain⟨s2,k2,Js,_⟩:=DataW.trod_string T.u2 q2;obtain⟨η1,H1,n1,vv,vars,a1,a2,a3,a4,a5,a6⟩:=XO s hb gz qb T.u3 T.up T.cp T.ZM T.ZN T.ZO T.ZP T.ZQ T.ZR q3;obtain⟨η2,H2,n2,kv,kids,b1,b2,b3,b4,b5,b6⟩:=ak5 a2 (a1 _ _ hb) (fN gz a3.1) (by have:=a3.2 b gz;rw[this];exact qb) T.u4 T.ui T.ci q4;injection k0 with k0;injection k1 with k1;injection k2 with k2;subst k0;subst k1;subst k2;refine⟨η2,H2,n2,⟨op,s1.data.toList,s2.data.toList,vars,kids⟩,vv,kv,a1.trans b1,b2,a3.trans b3,a4.ext b3,b4,?_,?_⟩
  ·exact .cons _ _ _ _ (.i _ _) (.cons _ _ _ _ (FJ _ _) (.cons _ _ _ _ (FJ _ _) (.cons _ _ _ _ (a5.mono b1) (.cons _ _ _ _ b5 .nil))))
  ·refine⟨y3.1,y4.1,?_,a6,b6⟩;rw[N3];simp[GD,GF,Js]
theorem alc(T:I5 P t e f0 f1 f2 f3 f4 tp g0 g1 ti)(s:St ty W η H n){b:K}{Lb:Loc}{lb:List V}(hb:η b=some Lb)(gz:b.num<n.num)(qb:H.get b=some (.r lb)){fuel blk off m:Nat}{D:Nat->DataW A}{Pl:Nat->List MemPlace}
 (hx:∀i,i<m->∃cs,cs.length=5/\(∀j,j<5->∃y,cs[j]?=some y/\W.cell? ⟨blk,off+(i*5+j),none⟩=some y)/\DataW.trod enc P W 0 (λ_=>true) held fuel e cs=some (D i,Pl i)):
 ∀k,k<=m->∃η' H' n' ts mm,η.le η'/\St ty W η' H' n'/\X.Ext H.get n H'.get n'/\ts.length=k/\mm.length=k/\(∀j (h1:j<ts.length) (h2:j<mm.length),X.fC H'.get n' mm[j].1 ts[j].vars/\X.gh H'.get n' .i64 mm[j].2 ts[j].kids/\Bf (D j) ts[j])/\(∀i v,(X.dc ts mm)[i]?=some v->∃y,W.cell? ⟨blk,off+i,none⟩=some y/\aC η' v y):=by
 intro k
 induction k with
 | zero=>intro _;exact⟨η,H,n,[],[],λ_ _ h=>h,s,X.Ext.refl _ _,rfl,rfl,λj h=>by simp at h,λi v h=>by simp[X.dc]at h⟩
 | succ k ih=>
  intro hk;obtain⟨η1,H1,n1,ts,mm,a1,a2,a3,a4,a5,a6,a7⟩:=ih (by omega);obtain⟨cs,c1,c2,c3⟩:=hx k (by omega);obtain⟨η2,H2,n2,nd,vv,kv,b1,b2,b3,b4,b5,b6,b7⟩:=alb T a2 (a1 _ _ hb) (fN gz a3.1) (by rw[a3.2 b gz];exact qb) c1 c3;have N4:mm.length=ts.length:=by omega
  refine⟨η2,H2,n2,ts++[nd],mm++[(vv,kv)],a1.trans b1,b2,a3.trans b3,by simp[a4],by simp[a5],λj h1 h2=>?_,λi v hi=>?_⟩
  ·by_cases hj:j<k
   ·obtain⟨q1,q2,q3⟩:=a6 j (by omega) (by omega);rw[List.getElem_append_left (by omega),List.getElem_append_left (by omega)];exact⟨q1.ext b3,q2.ext b3,q3⟩
   ·have fb:j=k:=by simp[a4]at h1;omega
    subst fb;rw[List.getElem_append_right (by omega),List.getElem_append_right (by omega)];simp only[a4,a5,qp,sH];exact⟨b4,b5,b7⟩
  ·rw[X.xX N4]at hi;have hlen:=X.wm N4;by_cases hik:i<k*5
   ·rw[uD (by omega)]at hi;obtain⟨y,h1,h2⟩:=a7 i v hi;exact⟨y,h1,h2.mono b1⟩
   ·rw[xu (by omega)]at hi;rw[hlen,a4]at hi;have e1:X.dc [nd] [(vv,kv)]=X.dT nd vv kv:=by simp[X.dc]
    rw[e1]at hi;have h5:i - k*5<5:=by have:=(nL.1 hi).1;simpa[X.dT]using this
    obtain⟨y,h1,h2⟩:=c2 (i - k*5) h5;refine⟨y,by rw[show k*5+(i - k*5)=i by omega]at h2;exact h2,?_⟩;have rl:∀{l:List V} {ys:List Value},bB η2 l ys->∀{i:Nat} {v:V} {y:Value},l[i]?=some v->ys[i]?=some y->aC η2 v y:=by
     intro l
     induction l with
     | nil=>intro ys _ i v y h;simp at h
     | cons a l ih=>
      intro ys hr i v y h h';cases hr with
      | cons _ z _ ys h1 h2=>
       cases i with
       | zero=>simp at h h';subst h;subst h';exact h1
       | succ i=>exact ih h2 (i:=i) (by simpa using h) (by simpa using h')
    exact rl b6 hi h1
theorem ald(T:I5 P t e f0 f1 f2 f3 f4 tp g0 g1 ti)(s:St ty W η H n){b:K}{Lb:Loc}{lb:List V}(hb:η b=some Lb)(gz:b.num<n.num)(qb:H.get b=some (.r lb)){fuel:Nat}{y:Value}{x:DataW A×List MemPlace}
 (h:DataW.trod enc P W 0 (λ_=>true) held fuel t [y]=some x):
 ∃η' H' n' v ts,η.le η'/\St ty W η' H' n'/\X.Ext H.get n H'.get n'/\X.db H'.get n' v ts/\aC η' v y/\((x.1=.nil/\ts=[])\/∃es sp,x.1=.slice es sp/\es.length=ts.length/\∀j (h1:j<ts.length) (h2:j<es.length),Bf es[j] ts[j]):=by
 rcases open_slice T.ht h with ⟨h1,h2⟩ | ⟨a,len,cap,m,fu,D,Pl,h1,_,hl,hm,wM,hx,we⟩
 ·injection h1 with h1;subst h1;subst h2;exact⟨η,H,n,.ns,[],λ_ _ h=>h,s,X.Ext.refl _ _,⟨[],rfl,X.ρ.ns _ _ _,λi hi=>by simp at hi⟩,.ns,Or.inl ⟨rfl,rfl⟩⟩
 ·injection h1 with h1;subst h1;simp only[if_true]at wM;subst wM;rw[T.ce]at we;have hd:∀ts:List X.Nd,ts.length=len->(∀j (h1:j<ts.length),Bf (D j) ts[j])->((x.1=.nil/\ts=[])\/∃es sp,x.1=.slice es sp/\es.length=ts.length/\∀j (h1:j<ts.length) (h2:j<es.length),Bf es[j] ts[j]):=λts J0 oj=>by
   refine Or.inr ⟨_,_,by rw[hx],by simp[J0],λj h1 h2=>?_⟩;simpa using oj j h1
  by_cases h0:m=0
  ·have gE:len=0:=by omega
   subst h0;subst gE;obtain⟨xk,N5⟩:=I3 hb gz qb 5 a;exact⟨η,H,n,.su b 0 0 5,[],λ_ _ h=>h,s,X.Ext.refl _ _,⟨[],rfl,xk,λi hi=>by simp at hi⟩,N5,hd [] rfl (λj h1=>by simp at h1)⟩
  ·obtain⟨cs0,q1,q2⟩:=we 0 (by omega);obtain⟨_,q3,q4⟩:=World.cells?_some q1;have q5:=q4 0 (by omega);have q6:W.cell? a=some (cs0[0]'(by omega)):=by simpa[Addr.add,q3]using q5
   have wX:=I4 q6;obtain⟨blk,off,spot⟩:=a;simp only at wX;subst wX;obtain⟨η1,H1,n1,ts,mm,a1,a2,a3,a4,a5,a6,a7⟩:=alc T s hb gz qb (fuel:=fu) (blk:=blk) (off:=off) (m:=m) (D:=D) (Pl:=Pl) (λi hi=>by obtain⟨cs,r1,r2⟩:=we i hi;obtain⟨_,r3,r4⟩:=World.cells?_some r1;refine⟨cs,r3,λj hj=>?_,r2⟩;have r5:=r4 j hj;rw[FI,FI]at r5;refine⟨cs[j]'(by omega),by simp[r3,hj],?_⟩;rw[show off+(i*5+j)=off+i*5+j by omega,r5];simp[r3,hj]) m (Γ _)
   have N4:mm.length=ts.length:=by omega
   obtain⟨η2,H2,v,b1,b2,b3,b4,b5⟩:=N2 (z:=5) (len:=len) (cap:=m) a2 (cs:=X.dc ts mm) (blk:=blk) (off:=off) ⟨_,_,q6⟩ a7 (by rw[X.wm N4];omega) hl;refine⟨η2,H2,n1.succ,v,ts.take len,a1.trans b1,b2,a3.trans b3,?_,b5,hd _ (by simp;omega) (λj h1=>?_)⟩
   ·have oz:(ts.take len).length=len:=by simp;omega
    refine⟨mm.take len,by simp;omega,?_,λi hi=>?_⟩
    ·rw[Nh N4 (by omega),oz];exact b4
    ·obtain⟨p1,p2,_⟩:=a6 i (by simp at hi;omega) (by simp at hi;omega);simp only[List.getElem_take];exact⟨p1.ext b3,p2.ext b3⟩
   ·have hj:j<ts.length:=by simp at h1;omega
    have:=(a6 j hj (by omega)).2.2;simpa using this
end
end
section
section
variable {A:Type}{enc:TypeId×Value->A}{P:Program}{W:World}{sp:Nat->Bool}{held:Bool}{η:Env}
def N6:DataW A->V
 | .lit (.int k n)=>.i k n
 | .lit (.string bs)=>X.st bs
 | _=>.q
def yW(enc:TypeId×Value->A)(P:Program)(W:World)(sp:Nat->Bool)(held:Bool)(η:Env)(dv:DataW A->V)(t:TypeId):Prop:=
 ∀fuel y x,DataW.trod enc P W 0 sp held fuel t [y]=some x->aC η (dv x.1) y
theorem I6{t:TypeId}{k:IntKind}{dv:DataW A->V}(u:P.underlying t=some (.int k))(h:∀n,dv (.lit (.int k n))=.i k n):yW enc P W sp held η dv t:=λfuel y x hx=>by obtain⟨n,h1,h2,_⟩:=DataW.trod_int u hx;injection h1 with h1;subst h1;rw[h2];show aC η (dv (.lit (.int k n))) _;rw[h];exact .i _ _
theorem AX{t:TypeId}{dv:DataW A->V}(u:P.underlying t=some .string)(h:∀bs,dv (.lit (.string bs))=X.st bs):yW enc P W sp held η dv t:=λfuel y x hx=>by obtain⟨s,h1,h2,_⟩:=DataW.trod_string u hx;injection h1 with h1;subst h1;rw[h2];show aC η (dv (.lit (.string _))) _;rw[h];exact FJ _ _
def I7(enc:TypeId×Value->A)(P:Program)(W:World)(sp:Nat->Bool)(held:Bool)(η:Env)(dv:DataW A->List V)(t:TypeId)(sz:Nat):Prop:=
 ∀fuel cs x,cs.length=sz->DataW.trod enc P W 0 sp held fuel t cs=some x->bB η (dv x.1) cs
theorem I8{dv:DataW A->V}{t:TypeId}(h:yW enc P W sp held η dv t):I7 enc P W sp held η (λd=>[dv d]) t 1:=λfuel cs x hl hx=>by
 match cs,hl with
 | [y],_=>exact .cons _ _ _ _ (h fuel y x hx) .nil
def ale(dv:DataW A->V):DataW A->List V
 | .agg [a,b,c,d]=>[dv a,dv b,dv c,dv d]
 | _=>[]
theorem XQ{dv:DataW A->V}{t:TypeId}{f0 f1 f2 f3:Field}(ht:P.underlying t=some (.struct #[f0,f1,f2,f3]))(o0:f0.offset=0)(o1:f1.offset=1)(o2:f2.offset=2)(o3:f3.offset=3)
 (c0:P.cellsOf f0.type=1)(c1:P.cellsOf f1.type=1)(c2:P.cellsOf f2.type=1)(c3:P.cellsOf f3.type=1)
 (s0:yW enc P W sp held η dv f0.type)(s1:yW enc P W sp held η dv f1.type)(s2:yW enc P W sp held η dv f2.type)(s3:yW enc P W sp held η dv f3.type):I7 enc P W sp held η (ale dv) t 4:=λfuel cs x hl hx=>by
 obtain⟨xs,k,hk,N3,_,JZ,hf⟩:=DataW.trod_struct ht hx
 match xs,JZ,cs,hl with
 | [y0,y1,y2,y3],_,[v0,v1,v2,v3],_=>
  have q0:=hf 0 f0 rfl;have q1:=hf 1 f1 rfl;have q2:=hf 2 f2 rfl;have q3:=hf 3 f3 rfl;simp[o0,c0]at q0;simp[o1,c1]at q1;simp[o2,c2]at q2;simp[o3,c3]at q3;rw[N3];exact .cons _ _ _ _ (s0 _ _ _ q0) (.cons _ _ _ _ (s1 _ _ _ q1) (.cons _ _ _ _ (s2 _ _ _ q2) (.cons _ _ _ _ (s3 _ _ _ q3) .nil)))
theorem alf{η:Env}:∀{l:List V} {ys:List Value},bB η l ys->∀{i:Nat} {v:V},l[i]?=some v->∃y,ys[i]?=some y/\aC η v y:=by
 intro l
 induction l with
 | nil=>intro ys _ i v h;simp at h
 | cons a l ih=>
  intro ys hr i v h;cases hr with
  | cons _ y _ ys h1 h2=>
   cases i with
   | zero=>simp at h;subst h;exact⟨y,rfl,h1⟩
   | succ i=>simpa using ih h2 (i:=i) (by simpa using h)
theorem alg{dv:DataW A->List V}{t e:TypeId}{m sz fuel:Nat}{cs:List Value}{d:DataW A}{ps:List MemPlace}{ds:List (DataW A)}{l:List V}(eQ:0<sz)(ht:P.underlying t=some (.array m e))(Mc:P.cellsOf e=sz)(ZS:P.cellsOf t=m*sz)
 (he:I7 enc P W sp held η dv e sz)(h:DataW.trod enc P W 0 sp held fuel t cs=some (d,ps))(hd:d=.agg ds)(hl:∀q,q<m->(l.drop (q*sz)).take sz=dv (ds.getD q .nil))(oA:l.length=m*sz):
 ∀(i:Nat) (v:V),l[i]?=some v->∃y,cs[i]?=some y/\aC η v y:=by
 intro i v hi;have pa:i<m*sz:=by rw[←oA];exact(nL.1 hi).1
 have hq:i / sz<m:=(Bj eQ).2 pa;have hr:i % sz<sz:=mb _ eQ;have hir:i / sz*sz+i % sz=i:=by rw[dY];exact xB i sz
 obtain⟨xs,fu,_,N3,iV,JZ,we⟩:=DataW.trod_array ht h;rw[Mc]at we;rw[ZS]at iV;injection N3 with hd1 _;rw[hd1]at hd;injection hd with uv;generalize i / sz=q at*;generalize i % sz=r at*;have hqx:q<xs.length:=by omega
 have hJ:=we q hq;rw[gP hqx]at hJ;have hqs:q*sz+sz<=m*sz:=by rw[←vP];exact iw _ hq
 have jb:=he fu _ _ (by rw[qn,sK,iV];omega) hJ;have hdq:ds.getD q .nil=xs[q].1:=by rw[←uv,fF,List.getElem?_map,gP hqx];rfl
 rw[←hdq,←hl q hq]at jb;have hpi:((l.drop (q*sz)).take sz)[r]?=some v:=by rw[List.getElem?_take_of_lt hr,Bs,hir];exact hi
 obtain⟨y,h1,h2⟩:=alf jb hpi;rw[List.getElem?_take_of_lt hr,Bs,hir]at h1;exact⟨y,h1,h2⟩
end
end
section
section
variable {A α:Type}{enc:TypeId×Value->A}{P:Program}{W:World}{held:Bool}{ty:Ty}
def N7(enc:TypeId×Value->A)(P:Program)(W:World)(held:Bool)(ty:Ty)(e:TypeId)(R:X.Hf->K->V->α->Prop)(D:DataW A->α->Prop):Prop:=
 ∀{η:Env} {H:Hp} {n:K} (s:St ty W η H n) {b:K} {Lb:Loc} {lb:List V} (hb:η b=some Lb) (gz:b.num<n.num) (qb:H.get b=some (.r lb)) {fuel:Nat} {y:Value} {x:DataW A×List MemPlace},DataW.trod enc P W 0 (λ_=>true) held fuel e [y]=some x->∃η' H' n' v a,η.le η'/\St ty W η' H' n'/\X.Ext H.get n H'.get n'/\R H'.get n' v a/\aC η' v y/\D x.1 a
def LR(R:X.Hf->K->V->α->Prop)(h:X.Hf)(n:K)(v:V)(l:List α):Prop:=∃hs:List V,hs.length=l.length/\X.ρ h n 1 v l.length hs/\∀i (h1:i<hs.length) (h2:i<l.length),R h n hs[i] l[i]
def LD(D:DataW A->α->Prop)(d:DataW A)(l:List α):Prop:=(d=.nil/\l=[])\/∃es sp,d=.slice es sp/\es.length=l.length/\∀j (h1:j<l.length) (h2:j<es.length),D es[j] l[j]
variable {R:X.Hf->K->V->α->Prop}{D:DataW A->α->Prop}{t e:TypeId}
theorem alj(hR:∀{h n h' n' v a},R h n v a->X.Ext h n h' n'->R h' n' v a)(r:N7 enc P W held ty e R D){η:Env}{H:Hp}{n:K}(s:St ty W η H n){b:K}{Lb:Loc}{lb:List V}(hb:η b=some Lb)(gz:b.num<n.num)(qb:H.get b=some (.r lb)){fuel blk off m:Nat}{E:Nat->DataW A}{Pl:Nat->List MemPlace}
 (hx:∀i,i<m->∃y,W.cell? ⟨blk,off+i,none⟩=some y/\DataW.trod enc P W 0 (λ_=>true) held fuel e [y]=some (E i,Pl i)):
 ∀k,k<=m->∃η' H' n',∃(l:List α) (hs:List V),η.le η'/\St ty W η' H' n'/\X.Ext H.get n H'.get n'/\l.length=k/\hs.length=k/\(∀j (h1:j<hs.length) (h2:j<l.length),R H'.get n' hs[j] l[j]/\D (E j) l[j])/\(∀i v,hs[i]?=some v->∃y,W.cell? ⟨blk,off+i,none⟩=some y/\aC η' v y):=by
 intro k
 induction k with
 | zero=>intro _;exact⟨η,H,n,[],[],λ_ _ h=>h,s,X.Ext.refl _ _,rfl,rfl,λj h=>by simp at h,λi v h=>by simp at h⟩
 | succ k ih=>
  intro hk;obtain⟨η1,H1,n1,l,hs,a1,a2,a3,a4,a5,a6,a7⟩:=ih (by omega);obtain⟨y,c2,c3⟩:=hx k (by omega);obtain⟨η2,H2,n2,w,a,b1,b2,b3,b4,b5,b6⟩:=r a2 (a1 _ _ hb) (fN gz a3.1) (by rw[a3.2 b gz];exact qb) c3;refine⟨η2,H2,n2,l++[a],hs++[w],a1.trans b1,b2,a3.trans b3,by simp[a4],by simp[a5],λj h1 h2=>?_,λi v hi=>?_⟩
  ·by_cases hj:j<k
   ·obtain⟨q1,q2⟩:=a6 j (by omega) (by omega);rw[List.getElem_append_left (by omega),List.getElem_append_left (by omega)];exact⟨hR q1 b3,q2⟩
   ·have fb:j=k:=by simp[a5]at h1;omega
    subst fb;rw[List.getElem_append_right (by omega),List.getElem_append_right (by omega)];simp only[a4,a5,qp,sH];exact⟨b4,b6⟩
  ·by_cases hik:i<k
   ·rw[uD (by omega)]at hi;obtain⟨y,h1,h2⟩:=a7 i v hi;exact⟨y,h1,h2.mono b1⟩
   ·rw[xu (by omega)]at hi;have:i=k:=by
     have:=(nL.1 hi).1;simp at this;omega
    subst this;simp[a5]at hi;subst hi;exact⟨y,c2,b5⟩
theorem XR(hR:∀{h n h' n' v a},R h n v a->X.Ext h n h' n'->R h' n' v a)(ht:P.underlying t=some (.slice e))(hc:P.cellsOf e=1)(r:N7 enc P W held ty e R D):N7 enc P W held ty t (LR R) (LD D):=by
 intro η H n s b Lb lb hb gz qb fuel y x h;rcases open_slice ht h with ⟨h1,h2⟩ | ⟨a,len,cap,m,fu,E,Pl,h1,_,hl,hm,wM,hx,we⟩
 ·injection h1 with h1;subst h1;exact⟨η,H,n,.ns,[],λ_ _ h=>h,s,X.Ext.refl _ _,⟨[],rfl,X.ρ.ns _ _ _,λi hi=>by simp at hi⟩,.ns,Or.inl ⟨by rw[h2],rfl⟩⟩
 ·injection h1 with h1;subst h1;simp only[if_true]at wM;subst wM;rw[hc]at we;have hd:∀l:List α,l.length=len->(∀j (h1:j<l.length),D (E j) l[j])->LD D x.1 l:=λl J0 oj=>by
   refine Or.inr ⟨_,_,by rw[hx],by simp[J0],λj h1 h2=>?_⟩;simpa using oj j h1
  by_cases h0:m=0
  ·have gE:len=0:=by omega
   subst h0;subst gE;obtain⟨xk,N5⟩:=I3 hb gz qb 1 a;exact⟨η,H,n,.su b 0 0 1,[],λ_ _ h=>h,s,X.Ext.refl _ _,⟨[],rfl,xk,λi hi=>by simp at hi⟩,N5,hd [] rfl (λj h1=>by simp at h1)⟩
  ·have each:∀i,i<m->∃y,W.cell? (a.add i)=some y/\DataW.trod enc P W 0 (λ_=>true) held fu e [y]=some (E i,Pl i):=λi hi=>by
    obtain⟨cs,r1,r2⟩:=we i hi;obtain⟨_,r3,r4⟩:=World.cells?_some r1
    match cs,r3,r2,r4 with
    | [z],_,r2,r4=>
     refine⟨z,?_,r2⟩;have:=r4 0 (by omega);have e0:∀b:Addr,b.add 0=b:=λb=>by unfold Addr.add;simp
     rw[e0,ka]at this;simpa using this
   obtain⟨y0,q1,_⟩:=each 0 (by omega);have e0:a.add 0=a:=by unfold Addr.add;simp
   rw[e0]at q1;have wX:=I4 q1;obtain⟨blk,off,spot⟩:=a;simp only at wX;subst wX;obtain⟨η1,H1,n1,l,hs,a1,a2,a3,a4,a5,a6,a7⟩:=alj (R:=R) (D:=D) hR @r s hb gz qb (fuel:=fu) (blk:=blk) (off:=off) (m:=m) (E:=E) (Pl:=Pl) (λi hi=>by obtain⟨y,r1,r2⟩:=each i hi;rw[FI]at r1;exact⟨y,r1,r2⟩) m (Γ _)
   obtain⟨η2,H2,v,b1,b2,b3,b4,b5⟩:=N2 (z:=1) (len:=len) (cap:=m) a2 (cs:=hs) (blk:=blk) (off:=off) ⟨_,_,q1⟩ a7 (by omega) hl;refine⟨η2,H2,n1.succ,v,l.take len,a1.trans b1,b2,a3.trans b3,?_,b5,hd _ (by simp;omega) (λj h1=>?_)⟩
   ·have oz:(l.take len).length=len:=by simp;omega
    refine⟨hs.take len,by simp;omega,by rw[oz];rw[ka]at b4;exact b4,λi h1 h2=>?_⟩;simp only[List.getElem_take];exact hR (a6 i (by simp at h1;omega) (by simp at h2;omega)).1 b3
   ·have hj:j<l.length:=by simp at h1;omega
    have:=(a6 j (by omega) hj).2;simpa using this
end
end
end Go.Ev
