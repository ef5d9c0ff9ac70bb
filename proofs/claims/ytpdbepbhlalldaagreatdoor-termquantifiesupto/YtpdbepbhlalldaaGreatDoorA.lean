/- A part of the proof. -/
import Derived.Calls
import Derived.Laws.Sem
import Derived.Laws.Strings
set_option linter.all false
namespace Go.Ev
theorem U{α:Sort _}{a:α}:a=a:=rfl
abbrev Γ:=@Nat.le_refl
abbrev bT:=@decide_eq_true_eq
abbrev bG:=@Bool.and_eq_true
abbrev dn:=@decide_eq_false_iff_not
abbrev cZ:=@Nat.eq_of_beq_eq_true
abbrev fF:=@List.getD_eq_getElem?_getD
abbrev gi:=@List.drop_eq_getElem_cons
abbrev gO:=@Array.getElem?_setIfInBounds
abbrev ai:=@if_neg
abbrev gP:=@List.getElem?_eq_getElem
abbrev az:=@if_pos
abbrev fN:=@Nat.lt_of_lt_of_le
abbrev dY:=@Nat.mul_comm
abbrev fG:=@List.length_cons
abbrev iw:=@Nat.mul_le_mul_right
abbrev jE:=@Nat.ble_eq_true_of_le
abbrev dU:=@List.getElem_mem
abbrev iy:=@List.take_succ_eq_append_getElem
abbrev gj:=@decide_eq_false
abbrev fO:=@List.take_length
abbrev nH:=@List.drop_length
abbrev nI:=@Array.getElem?_eq_getElem
abbrev iW:=@Bool.cond_eq_ite
abbrev fY:=@List.mem_cons
abbrev fZ:=@Nat.le_of_lt
abbrev oC:=@Array.getElem?_eq_some_iff
abbrev nJ:=@Nat.le_of_ble_eq_true
abbrev nK:=@Array.getElem?_toList
abbrev gW:=@Nat.pow_succ
abbrev iX:=@Nat.mul_assoc
abbrev gB:=@Nat.mul_add
abbrev zt:=@Bool.false_eq_true
abbrev pF:=@List.take_of_length_le
abbrev gX:=@List.length_append
abbrev nL:=@List.getElem?_eq_some_iff
abbrev iY:=@step_lone_go
abbrev gY:=@Nat.le_trans
abbrev ql:=@List.drop_eq_nil_of_le
abbrev hY:=@Nat.zero_add
abbrev rn:=@List.getElem?_cons_succ
abbrev iO:=@Nat.add_mul
abbrev mL:=@List.length_set
abbrev jR:=@Nat.lt_or_ge
abbrev rp:=@Nat.mul_le_mul_left
abbrev jS:=@List.drop_zero
abbrev kM:=@Nat.mul_zero
abbrev j8:=@Nat.add_zero
abbrev mM:=@Nat.add_assoc
abbrev ma:=@List.map_cons
abbrev xp:=@Array.getD_eq_getD_getElem?
abbrev sG:=@List.take_succ_cons
abbrev rq:=@Option.some.injEq
abbrev uD:=@List.getElem?_append_left
abbrev sH:=@List.getElem_cons_zero
abbrev sI:=@Int.natCast_nonneg
abbrev pG:=@List.length_nil
abbrev lB:=@List.getElem_of_mem
abbrev qm:=@Bool.or_eq_true
abbrev qn:=@List.length_take
abbrev nM:=@List.length_eq_zero_iff
abbrev xq:=@List.getElem?_cons_zero
abbrev j9:=@Array.ext'
abbrev uE:=@List.mem_of_mem_take
abbrev ru:=@List.all_eq_true
abbrev ka:=@Nat.mul_one
abbrev xr:=@List.getElem?_eq_none
abbrev qo:=@decide_eq_true
abbrev rz:=@Option.map_some
abbrev sJ:=@Bool.eq_iff_iff
abbrev mb:=@Nat.mod_lt
abbrev sK:=@List.length_drop
abbrev xu:=@List.getElem?_append_right
abbrev xw:=@List.getElem_cons_succ
abbrev nN:=@Bool.and_self
abbrev rA:=@Nat.sub_zero
abbrev xy:=@Nat.pos_of_ne_zero
abbrev vM:=@List.cons_append
abbrev zu:=@Nat.pow_le_pow_right
abbrev xz:=@List.range_eq_range'
abbrev qp:=@Nat.sub_self
abbrev qs:=@Nat.add_comm
abbrev vN:=@Bool.not_eq_true'
abbrev De:=@Nat.lt_of_mul_lt_mul_right
abbrev xA:=@List.not_mem_nil
abbrev Bj:=@Nat.div_lt_iff_lt_mul
abbrev Bk:=@List.take_append_drop
abbrev mN:=@List.mem_singleton
abbrev Bl:=@List.getElem?_toArray
abbrev Df:=@Bool.false_and
abbrev Bm:=@List.mem_of_mem_drop
abbrev xB:=@Nat.div_add_mod
abbrev kc:=@List.mem_append
abbrev lC:=@List.length_map
abbrev Bo:=@List.getElem_set_ne
abbrev Bp:=@Bool.true_and
abbrev Bq:=@Array.length_toList
abbrev Br:=@Array.getElem?_push
abbrev zw:=@Nat.mod_eq_of_lt
abbrev vO:=@Nat.mul_le_mul
abbrev Dh:=@Nat.div_div_eq_div_mul
abbrev xC:=@List.set_cons_succ
abbrev Bs:=@List.getElem?_drop
abbrev rB:=@Nat.zero_le
abbrev xD:=@Nat.min_eq_left
abbrev Di:=@List.mem_append_right
abbrev Bt:=@List.getElem_set_self
abbrev Bu:=@Nat.lt_trichotomy
abbrev uF:=@List.append_assoc
abbrev zy:=@Array.size_append
abbrev GI:=@Nat.mul_lt_mul_of_pos_left
abbrev Dj:=@Bool.or_eq_false_iff
abbrev Bv:=@Option.bind_some
abbrev Dk:=@List.ext_getElem
abbrev Dl:=@Bool.not_eq_true
abbrev Dm:=@List.replicate_succ
abbrev Dn:=@List.drop_succ_cons
abbrev GJ:=@Option.isSome_iff_exists
abbrev vP:=@Nat.succ_mul
end Go.Ev
namespace Go.Ev
open Go
inductive K where
 | h
 | o (p:K)
 | i (p:K)
 deriving Inhabited
inductive V where
 | b (x:Bool)
 | i (k:IntKind) (n:Int)
 | s (l n:Nat)
 | np
 | p (b:K) (o:Nat)
 | ns
 | sl (b:K) (o l c:Nat)
 | su (b:K) (o l e:Nat)
 | nm
 | m (b:K)
 | nf
 | f (f:Nat) (a c:List V)
 | y (l:K)
 | ni
 | lD (t:Nat) (v:V)
 | a (l:List V)
 | u (l:List V)
 | q
 deriving Inhabited
inductive aJ where
 | t (n:K)
 | c (v:V)
 deriving Inhabited
inductive EK where
 | bool | int | str | ptr | slice | map | func | iface
 deriving Inhabited
inductive eH where
 | one (k:EK)
 | agg (l:List (Nat×EK))
 deriving Inhabited
inductive Oj where
 | toInt (k:IntKind)
 | same
 | zA
 | J2 (e:Nat)
 | zB
 | Je
 | Jf (u:Nat)
 deriving Inhabited
inductive Yv where
 | str
 | sl (esz:Nat)
 | arr (n esz:Nat)
 deriving Inhabited
inductive A where
 | mv (x:aJ)
 | pick (c a b:aJ)
 | new (e:Nat) (zs:List V)
 | Bw (e:Nat) (x y:V)
 | Jg (x:aJ)
 | zC (u:Nat) (p l:aJ)
 | box (e:Nat) (x:aJ)
 | bld (zs:List V) (ps:List (Nat×Nat×aJ))
 | bsl (e:Nat) (zs:List V) (len:Nat) (ps:List (Nat×Nat×aJ))
 | ld (agg:Bool) (sz:Nat) (a:aJ)
 | st (sz:Nat) (a x:aJ)
 | nck (x:aJ)
 | bin (op:BinOp) (k:eH) (x y:aJ)
 | un (op:UnOp) (x:aJ)
 | cv (k:Oj) (x:aJ)
 | mif (t:Nat) (x:aJ)
 | mfn (f:Nat) (a c:List aJ)
 | mmap
 | msl (e esz bytes:Nat) (z:List V) (l c:aJ)
 | sli (k:Yv) (x:aJ) (lo hi mx:Option aJ)
 | fad (off:Nat) (x:aJ)
 | fld (agg:Bool) (off sz:Nat) (x:aJ)
 | iad (arr:Option Nat) (esz:Nat) (x i:aJ)
 | idx (arr:Option (Nat×Nat×Bool)) (x i:aJ)
 | lkp (q:eH) (z:V) (ok:Bool) (m k:aJ)
 | Jh (q:eH) (m k v:aJ)
 | Dp (PG:Bool) (x:aJ)
 | Dq (str:Bool) (x:aJ)
 | J3 (x:aJ)
 | tas (t:Nat) (z:V) (ok:Bool) (x:aJ)
 | ext (x:aJ) (n:Nat)
 | app (e esz bytes:Nat) (z:List V) (xE:Bool) (s x:aJ)
 | zD (esz:Nat) (d x:aJ)
 | len (k:Nat) (x:aJ)
 | cap (arr:Option Nat) (x:aJ)
 | del (q:eH) (m k:aJ)
 | mm (mx:Bool) (l:List aJ)
 | Ji (z:List V) (x:aJ)
 | hU (f:aJ) (l:List aJ)
 | tW (x:aJ)
 | bad
 deriving Inhabited
structure AO where
 dst:Option K
 op:A
 guard:Option (K×Bool)
 ah:Nat
 deriving Inhabited
inductive AC where
 | skip
 | reg (l:List AO)
 | regd (l:List AO)
 | seq (a b:AC)
 | cond (c:aJ) (a b:AC)
 | block (id:Nat) (c:AC)
 | loop (c:AC)
 | mf (f:aJ) (ps:List K) (as body:AC)
 | exit (id:Nat)
 | scope (c:AC)
 | pH (d:Option K) (x:aJ) (l:List AO) (c:AC) (ws:List K)
 | ret
 | bad
 deriving Inhabited
inductive AR where
 | t (n:K)
 | cell (a:K) (agg:Bool) (sz:Nat)
 deriving Inhabited
structure AF where
 jT:List K
 res:List AR
 body:AC
 deriving Inhabited
structure Bx where
 jT:List K
 res:List AR
 pre:List AO
 J4:K
 g:Nat
 hZ:List aJ
 body:AC
 J5:List K
 J6:K
 J7:AC
 deriving Inhabited
inductive Ex where
 | normal
 | exit (id:Nat)
 | ret
 | panic (v:V)
 deriving Inhabited
inductive Tr(α:Type) where
 | e
 | n (v:Option α) (l r:Tr α)
 deriving Inhabited
def Tr.get{α:Type}:Tr α->K->Option α
 | .e,_=>none
 | .n v _ _,.h=>v
 | .n _ l _,.o p=>l.get p
 | .n _ _ r,.i p=>r.get p
def Tr.zE{α:Type}(v:Option α):K->Tr α
 | .h=>.n v .e .e
 | .o p=>.n none (Tr.zE v p) .e
 | .i p=>.n none .e (Tr.zE v p)
def Tr.put{α:Type}(v:Option α):Tr α->K->Tr α
 | .e,k=>Tr.zE v k
 | .n _ l r,.h=>.n v l r
 | .n w l r,.o p=>.n w (Tr.put v l p) r
 | .n w l r,.i p=>.n w l (Tr.put v r p)
inductive O where
 | c (l:List V) (e fz:Nat)
 | r (l:List V)
 | b (x y:V) (e:Nat)
 | mp (es:List (V×V×Nat)) (c:Nat)
 | mi (b:K) (c:Nat)
 | me (m:K) (c t:Nat)
 | it (l n pos:Nat)
 | lp (ready:Bool) (gQ:Ex) (T:Tr V) (ps:List K) (as body:AC)
 deriving Inhabited
def K.succ:K->K
 | .h=>.o .h
 | .o p=>.i p
 | .i p=>.o p.succ
abbrev Hp:=Tr O
structure TE where
 args:List V
 n:K
 cU:Hp
 v:V
 add:Hp
 n':K
 deriving Inhabited
inductive Pm where
 | vQ | same
 | kI (l:List TE)
 | Ds (cU:Hp) (v:V)
 deriving Inhabited
inductive bP where
 | go (f:AF)
 | pm (p:Pm)
 | zF (f:Bx)
 deriving Inhabited
abbrev gC:=Option (V×Hp×K)
def nth{α:Type}:List α->Nat->Option α
 | [],_=>none
 | a::_,0=>some a
 | _::l,n+1=>nth l n
def takeN{α:Type}:Nat->List α->Option (List α)
 | 0,_=>some []
 | _+1,[]=>none
 | n+1,a::l=>match takeN n l with | some l'=>some (a::l') | none=>none
def pI{α:Type}:Nat->List α->Option (List α)
 | 0,l=>some l
 | _+1,[]=>none
 | n+1,_::l=>pI n l
def over{α:Type}:List α->List α->Option (List α)
 | [],l=>some l
 | _::_,[]=>none
 | v::vs,_::l=>match over vs l with | some l'=>some (v::l') | none=>none
def eW{α:Type}(vs:List α):List α->Nat->Option (List α)
 | l,0=>over vs l
 | [],_+1=>none
 | a::l,n+1=>match eW vs l n with | some l'=>some (a::l') | none=>none
def dt{α:Type}(l:List α)(o n:Nat):Option (List α):=
 match pI o l with
 | some l'=>takeN n l'
 | none=>none
def V.cells:V->List V
 | .a l=>l
 | v=>[v]
def V.one:V->Bool
 | .a _ | .u _ | .q=>false
 | _=>true
def K.beq:K->K->Bool
 | .h,.h=>true
 | .o a,.o b=>a.beq b
 | .i a,.i b=>a.beq b
 | _,_=>false
def kn:IntKind->Nat
 | .i8=>0 | .i16=>1 | .i32=>2 | .i64=>3 | .u8=>4 | .u16=>5 | .u32=>6 | .u64=>7
def fits:IntKind->Int->Bool
 | .i64,.ofNat n=>Nat.ble n 9223372036854775807
 | .i64,.negSucc n=>Nat.ble n 9223372036854775807
 | .u8,.ofNat n=>Nat.ble n 255
 | .i32,.ofNat n=>Nat.ble n 2147483647
 | .i32,.negSucc n=>Nat.ble n 2147483647
 | .u32,.ofNat n=>Nat.ble n 4294967295
 | .u64,.ofNat n=>Nat.ble n 18446744073709551615
 | .u16,.ofNat n=>Nat.ble n 65535
 | _,_=>false
def wr(k:IntKind)(n:Int):Int:=bif fits k n then n else k.wrap n
def sg:Int->Int->Bool
 | .ofNat a,.ofNat b=>Nat.beq a b
 | .negSucc a,.negSucc b=>Nat.beq a b
 | _,_=>false
def xd:Int->Int->Bool
 | .ofNat a,.ofNat b=>Nat.blt a b
 | .negSucc a,.negSucc b=>Nat.blt b a
 | .negSucc _,.ofNat _=>true
 | .ofNat _,.negSucc _=>false
def Dt(a b:Int):Bool:=!(xd b a)
def oD(op:BinOp)(k:IntKind)(x y:Int):Option V:=
 match op with
 | .add=>some (.i k (wr k (Int.add x y)))
 | .sub=>some (.i k (wr k (Int.sub x y)))
 | .mul=>some (.i k (wr k (Int.mul x y)))
 | .quo=>bif sg y 0 then none else some (.i k (wr k (Int.tdiv x y)))
 | .rem=>bif sg y 0 then none else some (.i k (Int.tmod x y))
 | .and=>some (.i k (wr k (Int.ofNat (BitVec.ofInt k.bits x &&& BitVec.ofInt k.bits y).toNat)))
 | .or=>some (.i k (wr k (Int.ofNat (BitVec.ofInt k.bits x ||| BitVec.ofInt k.bits y).toNat)))
 | .xor=>some (.i k (wr k (Int.ofNat (BitVec.ofInt k.bits x ^^^ BitVec.ofInt k.bits y).toNat)))
 | .andNot=>some (.i k (wr k (Int.ofNat (BitVec.ofInt k.bits x &&& ~~~BitVec.ofInt k.bits y).toNat)))
 | .eql=>some (.b (sg x y))
 | .neq=>some (.b (!(sg x y)))
 | .lss=>some (.b (xd x y))
 | .leq=>some (.b (Dt x y))
 | .gtr=>some (.b (xd y x))
 | .geq=>some (.b (Dt y x))
 | _=>none
def J8(op:BinOp)(k:IntKind)(x y:Int):Option V:=
 match y with
 | .negSucc _=>none
 | .ofNat m=>
  let n:=bif Nat.ble m k.bits then m else k.bits
  match op with
  | .shl=>some (.i k (wr k (Int.mul x (Int.ofNat (Nat.pow 2 n)))))
  | .shr=>some (.i k (Int.fdiv x (Int.ofNat (Nat.pow 2 n))))
  | _=>none
def slt:Nat->Nat->Nat->Nat->Bool
 | 0,_,l',_=>!(Nat.beq l' 0)
 | _+1,_,0,_=>false
 | l+1,n,l'+1,n'=>bif Nat.blt (Nat.mod n 256) (Nat.mod n' 256) then true
  else bif Nat.beq (Nat.mod n 256) (Nat.mod n' 256) then slt l (Nat.div n 256) l' (Nat.div n' 256) else false
def GK(op:BinOp)(l n l' n':Nat):Option V:=
 match op with
 | .add=>bif Nat.ble (Nat.add l l') 9223372036854775807 then some (.s (Nat.add l l') (Nat.add n (Nat.mul n' (Nat.pow 256 l)))) else none
 | .eql=>some (.b (Nat.beq l l'&&Nat.beq n n'))
 | .neq=>some (.b (!(Nat.beq l l'&&Nat.beq n n')))
 | .lss=>some (.b (slt l n l' n'))
 | .leq=>some (.b (slt l n l' n'||(Nat.beq l l'&&Nat.beq n n')))
 | .gtr=>some (.b (!(slt l n l' n'||(Nat.beq l l'&&Nat.beq n n'))))
 | .geq=>some (.b (!(slt l n l' n')))
 | _=>none
def Jj(n i:Nat):Nat:=Nat.mod (Nat.div n (Nat.pow 256 i)) 256
def Du(n a b:Nat):Nat:=Nat.mod (Nat.div n (Nat.pow 256 a)) (Nat.pow 256 (Nat.sub b a))
def By:Nat->Nat->List V
 | 0,_=>[]
 | l+1,n=>.i .u8 (Int.ofNat (Nat.mod n 256))::By l (Nat.div n 256)
def ofBytes:List V->Option Nat
 | []=>some 0
 | .i .u8 (.ofNat b)::l=>match ofBytes l with
  | some n=>bif Nat.blt b 256 then some (Nat.add b (Nat.mul 256 n)) else none
  | none=>none
 | _::_=>none
def dX:EK->V->V->Option Bool
 | .bool,.b x,.b y=>some (x==y)
 | .int,.i k x,.i k' y=>bif Nat.beq (kn k) (kn k') then some (sg x y) else none
 | .str,.s l n,.s l' n'=>some (Nat.beq l l'&&Nat.beq n n')
 | .ptr,.np,.np=>some true
 | .ptr,.np,.p _ _=>some false
 | .ptr,.p _ _,.np=>some false
 | .ptr,.p b o,.p b' o'=>bif K.beq b b' then some (Nat.beq o o') else none
 | .slice,.ns,.ns=>some true
 | .slice,.ns,.sl _ _ _ _=>some false
 | .slice,.ns,.su _ _ _ _=>some false
 | .slice,.sl _ _ _ _,.ns=>some false
 | .slice,.su _ _ _ _,.ns=>some false
 | .map,.nm,.nm=>some true
 | .map,.nm,.m _=>some false
 | .map,.m _,.nm=>some false
 | .func,.nf,.nf=>some true
 | .func,.nf,.f _ _ _=>some false
 | .func,.f _ _ _,.nf=>some false
 | .iface,.ni,.lD _ _=>some false
 | .iface,.lD _ _,.ni=>some false
 | .iface,.ni,.ni=>some true
 | _,_,_=>none
def CI(xs ys:List V):List (Nat×EK)->Option Bool
 | []=>some true
 | (i,q)::l=>match nth xs i,nth ys i with
  | some x,some y=>match dX q x y with
   | some true=>CI xs ys l
   | some false=>some false
   | none=>none
  | _,_=>none
def mF(k:eH)(x y:V):Option Bool:=
 match k with
 | .one q=>dX q x y
 | .agg l=>match x,y with
  | .a xs,.a ys=>CI xs ys l
  | _,_=>none
def oE(op:BinOp)(k:eH)(x y:V):Option V:=
 match op,x,y with
 | .shl,.i k a,.i _ b=>J8 .shl k a b
 | .shr,.i k a,.i _ b=>J8 .shr k a b
 | op,.i k a,.i k' b=>bif Nat.beq (kn k) (kn k') then oD op k a b else none
 | op,.s l n,.s l' n'=>GK op l n l' n'
 | .eql,x,y=>match mF k x y with | some b=>some (.b b) | none=>none
 | .neq,x,y=>match mF k x y with | some b=>some (.b (!b)) | none=>none
 | _,_,_=>none
def J9(op:UnOp)(x:V):Option V:=
 match op,x with
 | .neg,.i k n=>some (.i k (wr k (Int.sub 0 n)))
 | .not,.b b=>some (.b (!b))
 | .xor,.i k n=>oD .xor k (if k.signed then -1 else k.max) n
 | _,_=>none
def O.row:O->Option (List V)
 | .c l _ _=>some l
 | .r l=>some l
 | .b x y _=>some [x,y]
 | _=>none
def rowAt(H:Hp)(b:K):Option (List V):=
 match H.get b with
 | some o=>o.row
 | none=>none
def vF(H:Hp)(agg:Bool)(sz:Nat):V->Option V
 | .p b o=>match rowAt H b with
  | some l=>bif agg then (match dt l o sz with | some l'=>some (.a l') | none=>none) else nth l o
  | none=>none
 | _=>none
def bN:List V->Bool
 | []=>true
 | v::l=>v.one&&bN l
def iP(H:Hp)(b:K)(o:Nat)(vs:List V):Option Hp:=
 match H.get b with
 | some (.c l e fz)=>bif Nat.ble fz o&&bN vs then
  (match eW vs l o with | some l'=>some (H.put (some (.c l' e fz)) b) | none=>none) else none
 | some (.b x y e)=>bif bN vs then
  (match eW vs [x,y] o with | some [x',y']=>some (H.put (some (.b x' y' e)) b) | _=>none) else none
 | _=>none
def CJ(H:Hp)(sz:Nat)(a x:V):Option Hp:=
 match a with
 | .p b o=>bif Nat.beq x.cells.length sz then iP H b o x.cells else none
 | _=>none
def j4(H:Hp)(n:K)(o:O)(v:V):gC:=some (v,H.put (some o) n,n.succ)
def aI(T:Tr V):aJ->Option V
 | .t k=>T.get k
 | .c v=>some v
def fP(T:Tr V):List aJ->Option (List V)
 | []=>some []
 | x::l=>match aI T x,fP T l with
  | some v,some vs=>some (v::vs)
  | _,_=>none
def rC(T:Tr V)(zs:List V):List (Nat×Nat×aJ)->Option (List V)
 | []=>some zs
 | (o,sz,x)::ps=>match aI T x with
  | some v=>bif Nat.beq v.cells.length sz&&bN v.cells then (match eW v.cells zs o with | some Jk=>rC T Jk ps | none=>none) else none
  | none=>none
def gu(z:List V):Nat->List V
 | 0=>[]
 | n+1=>z++gu z n
def Ka:V->Option Nat
 | .i _ (.ofNat n)=>some n
 | _=>none
def dA(T:Tr V)(d:Nat):Option aJ->Option Nat
 | none=>some d
 | some x=>match aI T x with | some v=>Ka v | none=>none
def nq(k:Yv)(T:Tr V)(x:V)(lo hi mx:Option aJ):Option V:=
 match k,x with
 | .str,.s l n=>match dA T 0 lo,dA T l hi,mx with
  | some a,some b,none=>bif Nat.ble a b&&Nat.ble b l then some (.s (Nat.sub b a) (Du n a b)) else none
  | _,_,_=>none
 | .sl _,.ns=>match dA T 0 lo,dA T 0 hi,dA T 0 mx with
  | some 0,some 0,some 0=>some .ns
  | _,_,_=>none
 | .sl z,.sl b o l c=>match dA T 0 lo,dA T l hi,dA T c mx with
  | some p,some q,some m=>bif Nat.ble p q&&Nat.ble q m&&Nat.ble m c then
   some (.sl b (bif Nat.beq m p then o else Nat.add o (Nat.mul p z)) (Nat.sub q p) (Nat.sub m p)) else none
  | _,_,_=>none
 | .sl z,.su b o l e=>match mx with
  | none=>match dA T 0 lo,dA T l hi with
   | some p,some q=>bif Nat.ble p q&&Nat.ble q l&&Nat.beq z e then some (.su b (Nat.add o (Nat.mul p z)) (Nat.sub q p) e) else none
   | _,_=>none
  | some m=>match dA T 0 lo,dA T l hi,dA T 0 (some m) with
   | some p,some q,some m=>bif Nat.ble p q&&Nat.ble q m&&Nat.ble m l&&Nat.beq z e then
    bif Nat.beq l 0 then some (.su b o 0 e) else some (.sl b (bif Nat.beq m p then o else Nat.add o (Nat.mul p z)) (Nat.sub q p) (Nat.sub m p)) else none
   | _,_,_=>none
 | .arr n z,.p b o=>match dA T 0 lo,dA T n hi,dA T n mx with
  | some p,some q,some m=>bif Nat.ble p q&&Nat.ble q m&&Nat.ble m n then
   some (.sl b (bif Nat.beq m p then o else Nat.add o (Nat.mul p z)) (Nat.sub q p) (Nat.sub m p)) else none
  | _,_,_=>none
 | _,_=>none
def elems(H:Hp)(z:Nat):V->Option (Nat×List V)
 | .ns=>some (0,[])
 | .sl b o l _=>match rowAt H b with
  | some r=>match dt r o (Nat.mul l z) with | some vs=>some (l,vs) | none=>none
  | none=>none
 | .su b o l e=>bif Nat.beq e z then (bif Nat.beq l 0 then some (0,[]) else match rowAt H b with
  | some r=>match dt r o (Nat.mul l z) with | some vs=>some (l,vs) | none=>none
  | none=>none) else none
 | .s l n=>bif Nat.beq z 1 then some (l,By l n) else none
 | _=>none
def V.len:V->Nat
 | .sl _ _ l _ | .su _ _ l _=>l
 | _=>0
def ra(H:Hp)(n:K)(e z bytes:Nat)(s:V)(m:Nat)(new:List V):gC:=
 bif !(Nat.ble (Nat.mul (Nat.add s.len m) bytes) 1000000000&&Nat.ble bytes 100000&&Nat.ble (Nat.add s.len m) 1000000000) then none else
 match s with
 | .ns=>bif Nat.beq m 0 then some (.ns,H,n) else j4 H n (.c new e 0) (.su n 0 m z)
 | .sl b o l c=>
  bif Nat.ble (Nat.add l m) c then
   (bif Nat.beq m 0 then some (.sl b o l c,H,n) else match iP H b (Nat.add o (Nat.mul l z)) new with | some H'=>some (.sl b o (Nat.add l m) c,H',n) | none=>none)
  else match elems H z (.sl b o l c) with
   | some (_,ef)=>j4 H n (.c (ef++new) e 0) (.su n 0 (Nat.add l m) z)
   | none=>none
 | .su b o l z'=>
  bif Nat.beq m 0 then some (.su b o l z',H,n) else
  match H.get b with
  | some (.c r e' fz)=>bif Nat.beq e e'&&Nat.beq z z'&&Nat.ble fz (Nat.add o (Nat.mul l z))&&bN new then
   (match dt r o (Nat.mul l z) with
   | some ef=>j4 (H.put none b) n (.c (ef++new) e (Nat.sub fz o)) (.su n 0 (Nat.add l m) z)
   | none=>none) else none
  | _=>none
 | _=>none
def Bz(q:eH)(k:V):List (V×V×Nat)->Option (Option V)
 | []=>some none
 | (k',v,_)::es=>match mF q k k' with
  | some true=>some (some v)
  | some false=>Bz q k es
  | none=>none
def GL(t:Nat):List (V×V×Nat)->Option (V×V)
 | []=>none
 | (k,v,t')::es=>bif Nat.beq t' t then some (k,v) else GL t es
def Dw(q:eH)(k v:V)(c:Nat):List (V×V×Nat)->Option (List (V×V×Nat)×Bool)
 | []=>some ([(k,v,c)],true)
 | (k',v',t)::es=>match mF q k k' with
  | some true=>match q with | .one _=>some ((k,v,t)::es,false) | .agg _=>none
  | some false=>match Dw q k v c es with | some (gL,b)=>some ((k',v',t)::gL,b) | none=>none
  | none=>none
def Dx(q:eH)(k:V):List (V×V×Nat)->Option (List (V×V×Nat))
 | []=>some []
 | (k',v',t)::es=>match mF q k k' with
  | some true=>some es
  | some false=>match Dx q k es with | some gL=>some ((k',v',t)::gL) | none=>none
  | none=>none
def hasAll(xs:List V):List (Nat×EK)->Bool
 | []=>true
 | (i,_)::l=>(match nth xs i with | some _=>true | none=>false)&&hasAll xs l
def oF:eH->V->Bool
 | .one _,_=>true
 | .agg l,.a xs=>hasAll xs l
 | _,_=>false
def eg(H:Hp)(n:K):Option V->gC
 | some v=>some (v,H,n)
 | none=>none
def qt(n:K):Option Hp->gC
 | some H=>some (.u [],H,n)
 | none=>none
def Ol(mx:Bool):V->V->Option V
 | .i k x,.i _ y=>some (.i k (bif (bif mx then xd x y else xd y x) then y else x))
 | _,_=>none
def BA(f:V->V->Option V)(a:V):List V->Option V
 | []=>some a
 | v::l=>match f a v with | some a'=>BA f a' l | none=>none
def rune(l n:Nat):Nat×Nat:=
 let b0:=Nat.mod n 256;let b1:=Nat.mod (Nat.div n 256) 256;let b2:=Nat.mod (Nat.div n 65536) 256;let b3:=Nat.mod (Nat.div n 16777216) 256
 bif Nat.blt b0 128 then (b0,1)
 else bif Nat.beq (Nat.div b0 32) 6&&(Nat.blt 1 l&&Nat.beq (Nat.div b1 64) 2) then
  let c:=(b0 % 32)*64+b1 % 64
  bif Nat.ble 128 c then (c,2) else (65533,1)
 else bif Nat.beq (Nat.div b0 16) 14&&(Nat.blt 1 l&&Nat.beq (Nat.div b1 64) 2)&&(Nat.blt 2 l&&Nat.beq (Nat.div b2 64) 2) then
  let c:=(b0 % 16)*4096+(b1 % 64)*64+b2 % 64
  bif Nat.ble 2048 c&&(Nat.blt c 55296||(Nat.ble 57344 c&&Nat.ble c 1114111)) then (c,3) else (65533,1)
 else bif Nat.beq (Nat.div b0 8) 30&&(Nat.blt 1 l&&Nat.beq (Nat.div b1 64) 2)&&(Nat.blt 2 l&&Nat.beq (Nat.div b2 64) 2)&&(Nat.blt 3 l&&Nat.beq (Nat.div b3 64) 2) then
  let c:=(b0 % 8)*262144+(b1 % 64)*4096+(b2 % 64)*64+b3 % 64
  bif Nat.ble 65536 c&&Nat.ble c 1114111 then (c,4) else (65533,1)
 else (65533,1)
def vS:Nat->Nat->Nat->List V
 | 0,_,_=>[]
 | f+1,l,n=>bif Nat.beq l 0 then [] else
  let r:=rune l n
  .i .i32 (Int.ofNat r.1)::vS f (Nat.sub l r.2) (Nat.div n (Nat.pow 256 r.2))
def sL(m:Nat):Bool:=Nat.blt m 55296||(Nat.ble 57344 m&&Nat.ble m 1114111)
def pJ(m:Nat):Nat:=bif Nat.blt m 128 then 1 else bif Nat.blt m 2048 then 2 else bif Nat.blt m 65536 then 3 else 4
def sM(m:Nat):Nat:=
 bif Nat.blt m 128 then m
 else bif Nat.blt m 2048 then (192+m / 64)+256*(128+m % 64)
 else bif Nat.blt m 65536 then (224+m / 4096)+256*((128+m / 64 % 64)+256*(128+m % 64))
 else (240+m / 262144)+256*((128+m / 4096 % 64)+256*((128+m / 64 % 64)+256*(128+m % 64)))
def rb(H:Hp)(n:K)(k:Oj)(x:V):gC:=
 match k,x with
 | .toInt k,.i _ m=>some (.i k (wr k m),H,n)
 | .same,.s l m=>some (.s l m,H,n)
 | .zA,.s _ _=>none
 | .zA,x=>match elems H 1 x with
  | some (l,vs)=>match ofBytes vs with | some m=>some (.s l m,H,n) | none=>none
  | none=>none
 | .J2 e,.s l m=>let rs:=vS l l m;j4 H n (.c rs e 0) (.su n 0 rs.length 1)
 | .zB,.i _ (.ofNat m)=>bif sL m then some (.s (pJ m) (sM m),H,n) else none
 | .Je,.np=>some (.np,H,n)
 | .Je,.p b 0=>match H.get b with | some (.b _ _ _)=>some (.p b 0,H,n) | _=>none
 | .Jf _,.np=>some (.np,H,n)
 | .Jf u,.p b 0=>match H.get b with | some (.b _ _ e)=>(bif Nat.beq e u then some (.p b 0,H,n) else none) | _=>none
 | _,_=>none
def zG(ok:Bool)(v:V)(b:Bool):V:=bif ok then .u [v,.b b] else v
def simple(op:A)(T:Tr V)(H:Hp)(n:K):gC:=
 match op with
 | .mv x=>eg H n (aI T x)
 | .pick c a b=>match aI T c with
  | some (.b x)=>eg H n (aI T (bif x then a else b))
  | _=>none
 | .new e zs=>j4 H n (.c zs e 0) (.p n 0)
 | .Bw e x y=>j4 H n (.b x y e) (.p n 0)
 | .Jg x=>match aI T x with
  | some .ns=>some (.np,H,n)
  | some (.sl b o _ c)=>bif Nat.beq c 0 then none else some (.p b o,H,n)
  | some (.su b o l _)=>bif Nat.beq l 0 then none else some (.p b o,H,n)
  | _=>none
 | .zC u p l=>match aI T p,aI T l with
  | some .np,some (.i _ (.ofNat 0))=>some (.s 0 0,H,n)
  | some (.p b o),some (.i _ (.ofNat m))=>bif Nat.beq m 0 then some (.s 0 0,H,n) else match H.get b with
   | some (.c r e fz)=>bif Nat.beq e u&&Nat.ble m 9223372036854775807 then (match dt r o m with
    | some vs=>match ofBytes vs with
     | some q=>some (.s m q,H.put (some (.c r e (bif Nat.ble fz (Nat.add o m) then Nat.add o m else fz))) b,n)
     | none=>none
    | none=>none) else none
   | _=>none
  | _,_=>none
 | .box e x=>match aI T x with
  | some v=>bif bN v.cells then j4 H n (.c v.cells e 0) (.p n 0) else none
  | none=>none
 | .bld zs ps=>match rC T zs ps with | some l=>some (.a l,H,n) | none=>none
 | .bsl e zs len ps=>match rC T zs ps with | some l=>j4 H n (.c l e 0) (.sl n 0 len len) | none=>none
 | .ld agg sz a=>match aI T a with | some v=>eg H n (vF H agg sz v) | none=>none
 | .st sz a x=>match aI T a,aI T x with
  | some a,some x=>qt n (CJ H sz a x)
  | _,_=>none
 | .nck x=>match aI T x with
  | some (.p b o)=>some (.p b o,H,n)
  | some (.f g a c)=>some (.f g a c,H,n)
  | some (.y l)=>some (.y l,H,n)
  | _=>none
 | .bin op k x y=>match aI T x,aI T y with
  | some x,some y=>eg H n (oE op k x y)
  | _,_=>none
 | .un op x=>match aI T x with | some v=>eg H n (J9 op v) | none=>none
 | .cv k x=>match aI T x with | some v=>rb H n k v | none=>none
 | .mif t x=>match aI T x with | some v=>some (.lD t v,H,n) | none=>none
 | .mfn f a c=>match fP T a,fP T c with
  | some a,some c=>some (.f f a c,H,n)
  | _,_=>none
 | .mmap=>j4 H n (.mp [] 0) (.m n)
 | .msl e _ bytes z l c=>match aI T l,aI T c with
  | some (.i _ (.ofNat l)),some (.i _ (.ofNat c))=>bif Nat.ble l c&&Nat.ble (Nat.mul c bytes) 140737488355328&&Nat.ble c 9223372036854775807 then j4 H n (.c (gu z c) e 0) (.sl n 0 l c) else none
  | _,_=>none
 | .sli k x lo hi mx=>match aI T x with | some v=>eg H n (nq k T v lo hi mx) | none=>none
 | .fad off x=>match aI T x with | some (.p b o)=>some (.p b (Nat.add o off),H,n) | _=>none
 | .fld agg off sz x=>match aI T x with
  | some (.a l)=>bif agg then (match dt l off sz with | some l'=>some (.a l',H,n) | none=>none) else eg H n (nth l off)
  | _=>none
 | .iad arr z x i=>match aI T x,aI T i with
  | some x,some (.i _ (.ofNat i))=>match arr,x with
   | some m,.p b o=>bif Nat.blt i m then some (.p b (Nat.add o (Nat.mul i z)),H,n) else none
   | none,.sl b o l _=>bif Nat.blt i l then some (.p b (Nat.add o (Nat.mul i z)),H,n) else none
   | none,.su b o l _=>bif Nat.blt i l then some (.p b (Nat.add o (Nat.mul i z)),H,n) else none
   | _,_=>none
  | _,_=>none
 | .idx arr x i=>match aI T x,aI T i with
  | some x,some (.i _ (.ofNat i))=>match arr,x with
   | none,.s l m=>bif Nat.blt i l then some (.i .u8 (Int.ofNat (Jj m i)),H,n) else none
   | some (m,z,agg),.a l=>bif Nat.blt i m then
    (bif agg then (match dt l (Nat.mul i z) z with | some l'=>some (.a l',H,n) | none=>none) else eg H n (nth l (Nat.mul i z))) else none
   | _,_=>none
  | _,_=>none
 | .lkp q z ok m k=>match aI T m,aI T k with
  | some .nm,some k=>bif oF q k then some (zG ok z false,H,n) else none
  | some (.m b),some k=>bif oF q k then (match H.get b with
   | some (.mp es _)=>match Bz q k es with
    | some (some v)=>some (zG ok v true,H,n)
    | some none=>some (zG ok z false,H,n)
    | none=>none
   | _=>none) else none
  | _,_=>none
 | .Jh q m k v=>match aI T m,aI T k,aI T v with
  | some (.m b),some k,some v=>bif oF q k then (match H.get b with
   | some (.mp es c)=>match Dw q k v c es with | some (gL,new)=>some (.u [],H.put (some (.mp gL (bif new then Nat.succ c else c))) b,n) | none=>none
   | _=>none) else none
  | _,_,_=>none
 | .Dp PG x=>match PG,aI T x with
  | false,some (.s l m)=>j4 H n (.it l m 0) (.p n 0)
  | true,some (.m b)=>match H.get b with
   | some (.mp _ c)=>j4 H n (.mi b c) (.p n 0)
   | _=>none
  | _,_=>none
 | .Dq str x=>match str,aI T x with
  | true,some (.p b 0)=>match H.get b with
   | some (.it l m pos)=>bif Nat.blt pos l then
    (let r:=rune (Nat.sub l pos) (Nat.div m (Nat.pow 256 pos))
     some (.u [.b true,.i .i64 (Int.ofNat pos),.i .i32 (Int.ofNat r.1)],H.put (some (.it l m (Nat.add pos r.2))) b,n))
    else some (.u [.b false],H,n)
   | _=>none
  | _,_=>none
 | .J3 x=>match aI T x with
  | some (.p b 0)=>match H.get b with
   | some (.me m c t)=>match H.get m with
    | some (.mp es c')=>bif Nat.beq c c' then (match GL t es with | some (k,v)=>some (.u [k,v],H,n) | none=>none) else none
    | _=>none
   | _=>none
  | _=>none
 | .tas t z ok x=>match aI T x with
  | some .ni=>bif ok then some (.u [z,.b false],H,n) else none
  | some (.lD t' v)=>bif Nat.beq t t' then some (zG ok v true,H,n) else bif ok then some (.u [z,.b false],H,n) else none
  | _=>none
 | .ext x i=>match aI T x with | some (.u l)=>eg H n (nth l i) | _=>none
 | .app e z bytes zl xE s x=>match aI T s,aI T x with
  | some s,some x=>bif xE then (match x with | .i _ (.ofNat m)=>ra H n e z bytes s m (gu zl m) | _=>none)
   else (match elems H z x with | some (m,new)=>ra H n e z bytes s m new | none=>none)
  | _,_=>none
 | .zD z d x=>match aI T d,aI T x with
  | some (.s _ _),_=>none
  | some d,some x=>match elems H z d,elems H z x with
   | some (ld,_),some (lx,vs)=>
    let m:=bif Nat.ble lx ld then lx else ld
    bif Nat.beq m 0 then some (.i .i64 0,H,n) else
    match takeN (Nat.mul m z) vs,d with
    | some vs,.sl b o _ _=>match iP H b o vs with | some H=>some (.i .i64 (Int.ofNat m),H,n) | none=>none
    | some vs,.su b o _ _=>match iP H b o vs with | some H=>some (.i .i64 (Int.ofNat m),H,n) | none=>none
    | _,_=>none
   | _,_=>none
  | _,_=>none
 | .len k x=>match k,aI T x with
  | 0,some (.s l _)=>some (.i .i64 (Int.ofNat l),H,n)
  | 1,some .ns=>some (.i .i64 0,H,n)
  | 1,some (.sl _ _ l _)=>some (.i .i64 (Int.ofNat l),H,n)
  | 1,some (.su _ _ l _)=>some (.i .i64 (Int.ofNat l),H,n)
  | 2,some .nm=>some (.i .i64 0,H,n)
  | 2,some (.m b)=>match H.get b with | some (.mp es _)=>some (.i .i64 (Int.ofNat es.length),H,n) | _=>none
  | _,_=>none
 | .cap arr x=>match arr with
  | some m=>some (.i .i64 (Int.ofNat m),H,n)
  | none=>match aI T x with
   | some .ns=>some (.i .i64 0,H,n)
   | some (.sl _ _ _ c)=>some (.i .i64 (Int.ofNat c),H,n)
   | _=>none
 | .del q m k=>match aI T m,aI T k with
  | some .nm,some k=>bif oF q k then some (.u [],H,n) else none
  | some (.m b),some k=>bif oF q k then (match H.get b with
   | some (.mp es c)=>match Dx q k es with | some gL=>some (.u [],H.put (some (.mp gL c)) b,n) | none=>none
   | _=>none) else none
  | _,_=>none
 | .mm mx l=>match fP T l with
  | some (v::vs)=>eg H n (BA (Ol mx) v vs)
  | _=>none
 | .Ji z x=>match aI T x with
  | some .ns=>some (.u [],H,n)
  | some .nm=>some (.u [],H,n)
  | some (.sl b o l _)=>bif Nat.beq l 0 then some (.u [],H,n) else qt n (iP H b o (gu z l))
  | some (.su b o l _)=>bif Nat.beq l 0 then some (.u [],H,n) else qt n (iP H b o (gu z l))
  | _=>none
 | .hU _ _=>none
 | .tW _=>none
 | .bad=>none
inductive FR where
 | code (c:AC) (T:Tr V)
 | call (f:V) (l:List V)
 deriving Inhabited
structure R where
 ex:Ex
 T:Tr V
 v:V
 H:Hp
 n:K
 deriving Inhabited
abbrev eh:=FR->Hp->K->Option R
def eA(d:Option K)(v:Option V)(T:Tr V):Tr V:=
 match d with
 | some k=>T.put v k
 | none=>T
def want(g:Option (K×Bool))(T:Tr V):Option Bool:=
 match g with
 | none=>some true
 | some (k,w)=>match T.get k with
  | some (.b x)=>some (bif w then x else !x)
  | some (.u [])=>some false
  | _=>none
def eN(ih:eh)(op:A)(T:Tr V)(H:Hp)(n:K):Option R:=
 match op with
 | .hU f l=>match aI T f,fP T l with
  | some f,some l=>ih (.call f l) H n
  | _,_=>none
 | .tW x=>match aI T x with
  | some (.lD t v)=>some ⟨.panic (.lD t v),.e,.q,H,n⟩
  | _=>none
 | op=>match simple op T H n with
  | some (v,H,n)=>some ⟨.normal,.e,v,H,n⟩
  | none=>none
def oper(ih:eh)(op:A)(T:Tr V)(H:Hp)(n:K):gC:=
 match eN ih op T H n with
 | some ⟨.normal,_,v,H,n⟩=>some (v,H,n)
 | _=>none
def gv(ih:eh):List AO->Tr V->Hp->K->Option R
 | [],T,H,n=>some ⟨.normal,T,.q,H,n⟩
 | o::l,T,H,n=>match want o.guard T with
  | some true=>match eN ih o.op T H n with
   | some ⟨.normal,_,v,H,n⟩=>gv ih l (eA o.dst (some v) T) H n
   | some ⟨.panic v,_,_,H,n⟩=>some ⟨.panic v,T,.q,H,n⟩
   | _=>none
  | some false=>gv ih l (eA o.dst (some (.u [])) T) H n
  | none=>none
inductive Cls where
 | pure | make | read | kJ
def cls:A->Cls
 | .mv _ | .pick _ _ _ | .bld _ _ | .nck _ | .bin _ _ _ _ | .un _ _ | .mif _ _ | .mfn _ _ _ | .sli _ _ _ _ _ | .fad _ _ | .fld _ _ _ _
 | .iad _ _ _ _ | .idx _ _ _ | .tas _ _ _ _ | .ext _ _ | .mm _ _ | .cap _ _=>.pure
 | .new _ _ | .box _ _ | .bsl _ _ _ _ | .mmap | .msl _ _ _ _ _ _=>.make
 | .ld _ _ _ | .lkp _ _ _ _ _ | .len _ _=>.read
 | .cv (.toInt _) _ | .cv .same _ | .cv .zB _=>.pure
 | .cv .zA _=>.read
 | _=>.kJ
mutual
def dH:V->V->Bool
 | .b x,.b y=>x==y
 | .i k x,.i k' y=>Nat.beq (kn k) (kn k')&&sg x y
 | .s l n,.s l' n'=>Nat.beq l l'&&Nat.beq n n'
 | .np,.np=>true
 | .p b o,.p b' o'=>b.beq b'&&Nat.beq o o'
 | .ns,.ns=>true
 | .sl b o l c,.sl b' o' l' c'=>b.beq b'&&Nat.beq o o'&&Nat.beq l l'&&Nat.beq c c'
 | .su b o l c,.su b' o' l' c'=>b.beq b'&&Nat.beq o o'&&Nat.beq l l'&&Nat.beq c c'
 | .nm,.nm=>true
 | .m b,.m b'=>b.beq b'
 | .nf,.nf=>true
 | .f g a c,.f g' a' c'=>Nat.beq g g'&&lE a a'&&lE c c'
 | .ni,.ni=>true
 | .lD t v,.lD t' v'=>Nat.beq t t'&&dH v v'
 | .a l,.a l'=>lE l l'
 | .u l,.u l'=>lE l l'
 | _,_=>false
def lE:List V->List V->Bool
 | [],[]=>true
 | a::l,a'::l'=>dH a a'&&lE l l'
 | _,_=>false
end
def K.cmp:Bool->K->K->Bool
 | f,.h,.h=>f
 | _,.h,_=>true
 | _,_,.h=>false
 | f,.o a,.o b=>K.cmp f a b
 | f,.i a,.i b=>K.cmp f a b
 | _,.o a,.i b=>K.cmp true a b
 | _,.i a,.o b=>K.cmp false a b
mutual
def cu (n:K):V->Bool
 | .p b _ | .sl b _ _ _ | .su b _ _ _ | .m b | .y b=>K.cmp false b n
 | .f _ a c=>gZ n a&&gZ n c
 | .lD _ v=>cu n v
 | .a l | .u l=>gZ n l
 | _=>true
def gZ (n:K):List V->Bool
 | []=>true
 | v::l=>cu n v&&gZ n l
end
abbrev Made:=List (K×Nat)
def ee(H:Hp)(ah:Nat):Made->Hp
 | []=>H
 | (k,i)::l=>bif Nat.testBit ah i then ee H ah l else ee (H.put none k) ah l
def back(H H':Hp)(ah:Nat):Made->Hp
 | []=>H'
 | (k,i)::l=>bif Nat.testBit ah i then back H H' ah l else back H (H'.put (H.get k) k) ah l
structure Rd where
 i:Nat
 op:A
 ah:Nat
 T:Tr V
 v:V
structure Bg where
 i:Nat
 ah:Nat
 H:Hp
 H':Hp
def Dy(r:Rd)(H:Hp)(m:Made):Bool:=
 match simple r.op r.T (ee H r.ah m) .h with
 | some (v,_,_)=>dH v r.v
 | none=>false
def BB(m:Made)(r:Rd)(b:Bg):Bool:=
 Nat.testBit r.ah b.i||Nat.testBit b.ah r.i||(Dy r b.H m&&Dy r b.H' m)
def vT(m:Made)(rs:List Rd)(bs:List Bg):Bool:=rs.all λr=>bs.all λb=>BB m r b
def fw(ih:eh):List AO->Nat->Tr V->Hp->K->Made->List Rd->List Bg->Option R
 | [],_,T,H,n,m,rs,bs=>bif vT m rs bs then some ⟨.normal,T,.q,H,n⟩ else none
 | o::l,i,T,H,n,m,rs,bs=>match want o.guard T with
  | some true=>match oper ih o.op T (ee H o.ah m) n with
   | some (v,H',n')=>
    let qu:=back H H' o.ah m
    match cls o.op with
    | .pure=>fw ih l (Nat.succ i) (eA o.dst (some v) T) H n m rs bs
    | .read=>bif cu n v then fw ih l (Nat.succ i) (eA o.dst (some v) T) H n m (⟨i,o.op,o.ah,T,v⟩::rs) bs else none
    | .make=>fw ih l (Nat.succ i) (eA o.dst (some v) T) qu n' ((n,i)::m) rs bs
    | .kJ=>fw ih l (Nat.succ i) (eA o.dst (some v) T) qu n' m rs (⟨i,o.ah,H,qu⟩::bs)
   | none=>none
  | some false=>fw ih l (Nat.succ i) (eA o.dst (some (.u [])) T) H n m rs bs
  | none=>none
def Kb:V×V×Nat->V×V×Nat->Bool
 | (a,b,c),(a',b',c')=>dH a a'&&dH b b'&&Nat.beq c c'
def Jl:List (V×V×Nat)->List (V×V×Nat)->Bool
 | [],[]=>true
 | a::l,a'::l'=>Kb a a'&&Jl l l'
 | _,_=>false
def vU(a b:O):Bool:=
 match a with
 | .c l e fz=>(match b with | .c l' e' fz'=>lE l l'&&Nat.beq e e'&&Nat.beq fz fz' | _=>false)
 | .r l=>(match b with | .r l'=>lE l l' | _=>false)
 | .b x y e=>(match b with | .b x' y' e'=>dH x x'&&dH y y'&&Nat.beq e e' | _=>false)
 | .mp es c=>(match b with | .mp gL c'=>Jl es gL&&Nat.beq c c' | _=>false)
 | .mi b1 c=>(match b with | .mi b' c'=>b1.beq b'&&Nat.beq c c' | _=>false)
 | .me m c t=>(match b with | .me m' c' t'=>m.beq m'&&Nat.beq c c'&&Nat.beq t t' | _=>false)
 | .it l n p=>(match b with | .it l' n' p'=>Nat.beq l l'&&Nat.beq n n'&&Nat.beq p p' | _=>false)
 | .lp _ _ _ _ _ _=>false
def gk{α:Type}(eq:α->α->Bool):Tr α->Tr α->Bool
 | .e,_=>true
 | .n v l r,.e=>(match v with | none=>true | some _=>false)&&gk eq l .e&&gk eq r .e
 | .n v l r,.n v' l' r'=>(match v,v' with | none,_=>true | some a,some a'=>eq a a' | _,_=>false)&&gk eq l l'&&gk eq r r'
def erase(T:Tr V):List K->Tr V
 | []=>T
 | k::l=>erase (T.put none k) l
def xF(dC:Nat):Nat->List (V×V×Nat)->Bool
 | _,[]=>true
 | lo,(_,_,t)::es=>Nat.ble lo t&&Nat.blt t dC&&xF dC (Nat.succ t) es
def sN(T:Tr V)(x:aJ)(b:K):Bool:=
 match aI T x with
 | some (.p b' 0)=>K.beq b b'
 | _=>false
def Dz(go:V×V×Nat->Option R)(T:Tr V)(H:Hp):List (V×V×Nat)->Bool
 | []=>true
 | e::es=>(match go e with
  | some ⟨.normal,T',_,H',_⟩=>gk dH T T'&&gk vU H H'
  | _=>false)&&Dz go T H es
def binds:List K->List V->Tr V->Option (Tr V)
 | _,[],T=>some T
 | k::ks,v::vs,T=>binds ks vs (T.put (some v) k)
 | [],_::_,_=>none
def result(T:Tr V)(H:Hp):AR->Option V
 | .t k=>T.get k
 | .cell k agg sz=>match T.get k with
  | some a=>vF H agg sz a
  | none=>none
def xG(T:Tr V)(H:Hp):List AR->Option (List V)
 | []=>some []
 | r::l=>match result T H r,xG T H l with
  | some v,some vs=>some (v::vs)
  | _,_=>none
def rD(l:List AR)(T:Tr V)(H:Hp):Option V:=
 match xG T H l with
 | some [v]=>some v
 | some vs=>some (.u vs)
 | none=>none
def Ex.jF:Ex->Bool
 | .normal=>true
 | _=>false
def Ex.Kc:Ex->V
 | .panic v=>v
 | _=>.ni
def Ex.rE:Ex->Bool
 | .panic _=>true
 | _=>false
def BC(c:Nat):Nat->Nat->Nat->Option Nat
 | 0,_,_=>none
 | l+1,n,i=>bif Nat.beq (Nat.mod n 256) c then some i else BC c l (Nat.div n 256) (Nat.succ i)
def Ke:Option Nat->V
 | some i=>.i .i64 (Int.ofNat i)
 | none=>.i .i64 (Int.negSucc 0)
def DA(l:List V)(H:Hp)(n:K):gC:=
 match l with
 | [.s l m,.i .u8 (.ofNat c)]=>bif Nat.blt c 256 then some (Ke (BC c l m 0),H,n) else none
 | _=>none
def Kf(l:List V)(H:Hp)(n:K):gC:=
 match l with
 | [v]=>some (v,H,n)
 | _=>none
def TE.fits(e:TE)(l:List V)(H:Hp)(n:K):Bool:=K.beq e.n n&&lE e.args l&&K.cmp true n e.n'&&gk vU e.cU H
def GM:List TE->List V->Hp->K->gC
 | [],_,_,_=>none
 | e::es,l,H,n=>bif e.fits l H n then some (e.v,e.add,e.n') else GM es l H n
def pm(p:Pm)(l:List V)(H:Hp)(n:K):gC:=
 match p with
 | .vQ=>DA l H n
 | .same=>Kf l H n
 | .kI es=>GM es l H n
 | .Ds cU v=>match l with
  | []=>bif gk vU cU H then some (v,H,n) else none
  | _=>none
def ca(C:Nat->Option bP)(ih:eh)(j:FR)(H:Hp)(n:K):Option R:=
 match j with
 | .code c T=>match c with
  | .skip=>some ⟨.normal,T,.q,H,n⟩
  | .reg l=>gv ih l T H n
  | .regd l=>fw ih l 0 T H n [] [] []
  | .seq a b=>match ih (.code a T) H n with
   | some ⟨.normal,T,_,H,n⟩=>ih (.code b T) H n
   | r=>r
  | .cond c a b=>match aI T c with
   | some (.b x)=>ih (.code (bif x then a else b) T) H n
   | _=>none
  | .block id c=>match ih (.code c T) H n with
   | some ⟨.exit CK,T,v,H,n⟩=>bif Nat.beq id CK then some ⟨.normal,T,v,H,n⟩ else some ⟨.exit CK,T,v,H,n⟩
   | r=>r
  | .loop c=>match ih (.code c T) H n with
   | some ⟨.normal,T,_,H,n⟩=>ih (.code (.loop c) T) H n
   | r=>r
  | .mf f ps as body=>match aI T f with
   | some f=>match ih (.call f [.y n]) (H.put (some (.lp true .normal T ps as body)) n) n.succ with
    | some ⟨.normal,_,_,H',n'⟩=>match H'.get n with
     | some (.lp true gQ _ _ _ _)=>bif gQ.rE then none else some ⟨gQ,T,.q,H'.put none n,n'⟩
     | some (.lp false gQ _ _ _ _)=>bif gQ.rE||gQ.jF then none else some ⟨gQ,T,.q,H'.put none n,n'⟩
     | _=>none
    | _=>none
   | none=>none
  | .pH d x l c ws=>match aI T x with
   | some (.p b 0)=>match H.get b with
    | some (.mi m since)=>match H.get m with
     | some (.mp es dC)=>bif Nat.beq since dC&&xF dC 0 es then
      let round (T:Tr V) (H:Hp) (n:K) (e:V×V×Nat):Option R:=match gv ih l (eA d (some (.u [.b true,e.1,e.2.1])) T) (H.put (some (.me m dC e.2.2)) b) n with
       | some ⟨.normal,T,_,H,n⟩=>ih (.code c T) H n
       | _=>none
      let over (T:Tr V) (H:Hp) (n:K):Option R:=match gv ih l (eA d (some (.u [.b false])) T) H n with
       | some ⟨.normal,T,_,H,n⟩=>(match ih (.code c T) H n with
        | some ⟨.normal,_,_,_,_⟩=>none
        | r=>r)
       | _=>none
      match es with
      | [e]=>match round T (H.put none b) n e with
       | some ⟨.normal,T,_,H,n⟩=>(match H.get b,H.get m with
        | some (.me _ _ _),some (.mp [(_,_,t)] dC)=>bif Nat.beq since dC&&Nat.beq t e.2.2&&sN T x b then over T (H.put none b) n else none
        | _,_=>none)
       | r=>r
      | es=>
       let T:=erase T ws;let H:=H.put none b
       bif sN T x b&&Dz (round T H n) T H es then over T H n else none
      else none
     | _=>none
    | _=>none
   | _=>none
  | .exit id=>some ⟨.exit id,T,.q,H,n⟩
  | .scope c=>ih (.code c T) H n
  | .ret=>some ⟨.ret,T,.q,H,n⟩
  | .bad=>none
 | .call f l=>match f with
  | .f g a c=>match C g with
   | some (.pm p)=>match pm p (a++(l++c)) H n with
    | some (v,H,n)=>some ⟨.normal,.e,v,H,n⟩
    | none=>none
   | some (.go af)=>match binds af.jT (a++(l++c)) .e with
    | some T=>match ih (.code af.body T) H n with
     | some ⟨.exit _,_,_,_,_⟩=>none
     | some ⟨.panic v,_,_,H,n⟩=>some ⟨.panic v,.e,.q,H,n⟩
     | some ⟨_,T,_,H,n⟩=>match rD af.res T H with
      | some v=>some ⟨.normal,.e,v,H,n⟩
      | none=>none
     | none=>none
    | none=>none
   | some (.zF af)=>match binds af.jT (a++(l++c)) .e with
    | some T=>match gv ih af.pre T H n with
     | some ⟨.normal,T,_,H,n⟩=>match fP T af.hZ with
      | some hZ=>match ih (.code af.body (T.put (some (.f af.g [] hZ)) af.J4)) H n with
       | some ⟨.exit _,_,_,_,_⟩=>none
       | some ⟨ex,T,_,H,n⟩=>match binds af.J5 hZ .e with
        | some Tc=>match ih (.code af.J7 (Tc.put (some ex.Kc) af.J6)) H n with
         | some ⟨.exit _,_,_,_,_⟩=>none
         | some ⟨.panic _,_,_,_,_⟩=>none
         | some ⟨_,_,_,H,n⟩=>match rD af.res T H with
          | some v=>some ⟨.normal,.e,v,H,n⟩
          | none=>none
         | none=>none
        | none=>none
       | none=>none
      | none=>none
     | _=>none
    | none=>none
   | none=>none
  | .y k=>match H.get k with
   | some (.lp true .normal T ps as body)=>match binds ps l T with
    | some T'=>bif Nat.beq ps.length l.length then
     (match ih (.code as T') H n with
     | some ⟨.normal,T',_,H,n⟩=>match H.get k with
      | some (.lp true .normal T ps as BD)=>match ih (.code body T') (H.put (some (.lp false .normal T ps as BD)) k) n with
       | some r=>match r.H.get k with
        | some (.lp false .normal T ps as body)=>bif r.ex.rE then none else some ⟨.normal,.e,.b r.ex.jF,r.H.put (some (.lp r.ex.jF r.ex T ps as body)) k,r.n⟩
        | _=>none
       | none=>none
      | _=>none
     | _=>none) else none
    | none=>none
   | _=>none
  | _=>none
def ev(C:Nat->Option bP):Nat->eh
 | 0=>λ_ _ _=>none
 | f+1=>ca C (ev C f)
def K.DB:Nat->Nat->K
 | 0,_=>.h
 | f+1,n=>bif Nat.ble n 1 then .h else bif Nat.beq (Nat.mod n 2) 0 then .o (K.DB f (Nat.div n 2)) else .i (K.DB f (Nat.div n 2))
def cT(t:Nat):K:=K.DB (Nat.succ t) (Nat.succ t)
inductive TD where
 | bool | int (k:IntKind) | str | ptr (e:Nat) | slice (e:Nat) | arr (n e:Nat) | map (k e:Nat)
 | rF (fs:List (Nat×Nat)) (plain:Bool)
 | func | iface | BE | other
 deriving Inhabited
structure TI where
 desc:TD
 size:Nat
 bytes:Nat
 zero:List V
 deriving Inhabited
structure Ty where
 i:Nat->Option TI
 g:Nat
 b:Nat
instance:CoeFun Ty (λ_=>Nat->Option TI):=⟨Ty.i⟩
def TD.agg:TD->Bool
 | .rF _ _ | .arr _ _=>true
 | _=>false
def TI.zeroV(i:TI):V:=bif i.desc.agg then .a i.zero else i.zero.headD .q
def bR:List UInt8->Nat
 | []=>0
 | b::l=>b.toNat+256*bR l
mutual
def gR:Value->Option V
 | .bool b=>some (.b b)
 | .int k n=>some (.i k n)
 | .string s=>some (.s s.size (bR s.data.toList))
 | .pointer none=>some .np
 | .slice none 0 0=>some .ns
 | .map none=>some .nm
 | .func (.func f) ⟨[]⟩ ⟨[]⟩=>some (.f f [] [])
 | .nilFunc=>some .nf
 | .nilIface=>some .ni
 | .iface t v=>match gR v with | some v=>some (.lD t v) | none=>none
 | .agg ⟨l⟩=>match xH l with | some l=>some (.a l) | none=>none
 | .tuple ⟨l⟩=>match xH l with | some l=>some (.u l) | none=>none
 | _=>none
def xH:List Value->Option (List V)
 | []=>some []
 | v::l=>match gR v,xH l with
  | some v,some l=>some (v::l)
  | _,_=>none
end
def cr(ty:Ty):Operand->Option aJ
 | .tmp t=>some (.t (cT t))
 | .const v=>match gR v with | some v=>some (.c v) | none=>none
 | .global g=>bif Nat.blt g ty.g then some (.c (.p (cT g) 0)) else none
 | .func f=>some (.c (.f f [] []))
def pK(ty:Ty):List Operand->Option (List aJ)
 | []=>some []
 | x::l=>match cr ty x,pK ty l with
  | some x,some l=>some (x::l)
  | _,_=>none
def uG(ty:Ty):Option Operand->Option (Option aJ)
 | none=>some none
 | some x=>match cr ty x with | some x=>some (some x) | none=>none
def TD.ek:TD->Option EK
 | .bool=>some .bool
 | .int _=>some .int
 | .str=>some .str
 | .ptr _=>some .ptr
 | .slice _=>some .slice
 | .map _ _=>some .map
 | .func=>some .func
 | _=>none
def TD.key:TD->Option EK
 | .bool=>some .bool
 | .int _=>some .int
 | .str=>some .str
 | _=>none
def flat(ty:Ty):List (Nat×Nat)->Option (List (Nat×EK))
 | []=>some []
 | (t,o)::fs=>match ty t with
  | some i=>match i.desc.key,flat ty fs with
   | some q,some l=>some ((o,q)::l)
   | _,_=>none
  | none=>none
def xI:Operand->Bool
 | .const .nilIface=>true
 | _=>false
def mg(ty:Ty)(k:Nat):Option eH:=
 match ty k with
 | some i=>match i.desc with
  | .rF fs plain=>bif plain then (match flat ty fs with | some l=>some (.agg l) | none=>none) else none
  | .arr n e=>match ty e with
   | some j=>match j.desc.key with
    | some q=>some (.agg ((List.range n).map λi=>(i,q)))
    | none=>none
   | none=>none
  | d=>match d.key with | some q=>some (.one q) | none=>none
 | none=>none
def Jm(ty:Ty)(t:Nat)(x y:Operand):Option eH:=
 match ty t with
 | some i=>match i.desc with
  | .rF _ _ | .arr _ _=>mg ty t
  | .iface=>bif xI x||xI y then some (.one .iface) else none
  | .ptr e=>match ty e with
   | some j=>bif Nat.beq j.size 0 then none else some (.one .ptr)
   | none=>none
  | d=>match d.ek with | some q=>some (.one q) | none=>none
 | none=>none
def isEq:BinOp->Bool
 | .eql | .neq=>true
 | _=>false
def zH(ty:Ty)(off:Nat->Option (Nat×Nat)):List (Nat×Operand)->Option (List (Nat×Nat×aJ))
 | []=>some []
 | (i,x)::l=>match off i,cr ty x,zH ty off l with
  | some (o,s),some x,some l=>some ((o,s,x)::l)
  | _,_,_=>none
def GN(ty:Ty)(fs:List (Nat×Nat))(i:Nat):Option (Nat×Nat):=
 match nth fs i with
 | some (t,o)=>match ty t with | some j=>some (o,j.size) | none=>none
 | none=>none
def sO(ty:Ty)(c:Call):Option A:=
 match c.callee with
 | .value f=>match cr ty f,pK ty c.args.toList with
  | some f,some l=>some (.hU f l)
  | _,_=>none
 | .invoke _ _=>none
 | .builtin b=>match b,c.args.toList,c.argTypes.toList with
  | .append,[s,x],t::u::_=>match ty t,ty u,cr ty s,cr ty x with
   | some i,some j,some s,some x=>match i.desc,j.desc with
    | _,.other=>none
    | .slice e,d=>match ty e with
     | some k=>some (.app e k.size k.bytes k.zero (match d with | .int _=>true | _=>false) s x)
     | none=>none
    | _,_=>none
   | _,_,_,_=>none
  | .unsafeSliceData,[x],t::_=>match ty t,cr ty x with
   | some i,some x=>match i.desc with
    | .slice _=>some (.Jg x)
    | _=>none
   | _,_=>none
  | .unsafeString,[p,l],t::_=>match ty t,cr ty p,cr ty l with
   | some i,some p,some l=>match i.desc with
    | .ptr u=>match ty u with | some ⟨.int .u8,1,_,_⟩=>some (.zC u p l) | _=>none
    | _=>none
   | _,_,_=>none
  | .copy,[d,x],t::_=>match ty t,cr ty d,cr ty x with
   | some i,some d,some x=>match i.desc with
    | .slice e=>match ty e with | some k=>some (.zD k.size d x) | none=>none
    | _=>none
   | _,_,_=>none
  | .len,[x],t::_=>match ty t,cr ty x with
   | some i,some x=>match i.desc with
    | .arr n _=>some (.mv (.c (.i .i64 (Int.ofNat n))))
    | .ptr e=>match ty e with | some ⟨.arr n _,_,_,_⟩=>some (.mv (.c (.i .i64 (Int.ofNat n)))) | _=>none
    | .str=>some (.len 0 x)
    | .slice _=>some (.len 1 x)
    | .map _ _=>some (.len 2 x)
    | _=>none
   | _,_=>none
  | .cap,[x],t::_=>match ty t,cr ty x with
   | some i,some x=>match i.desc with
    | .slice _=>some (.cap none x)
    | _=>none
   | _,_=>none
  | .delete,[m,k],t::_=>match ty t,cr ty m,cr ty k with
   | some i,some m,some k=>match i.desc with
    | .map kt _=>match mg ty kt with | some q=>some (.del q m k) | none=>none
    | _=>none
   | _,_,_=>none
  | .max,l,_=>match pK ty l with | some l=>some (.mm true l) | none=>none
  | .min,l,_=>match pK ty l with | some l=>some (.mm false l) | none=>none
  | .clear,[x],t::_=>match ty t,cr ty x with
   | some i,some x=>match i.desc with
    | .slice e=>match ty e with | some k=>some (.Ji k.zero x) | none=>none
    | _=>none
   | _,_=>none
  | _,_,_=>none
def en(ty:Ty)(o:Op):Option A:=
 match o with
 | .move x | .assign x=>match cr ty x with | some x=>some (.mv x) | none=>none
 | .pick c a b=>match cr ty c,cr ty a,cr ty b with
  | some c,some a,some b=>some (.pick c a b)
  | _,_,_=>none
 | .alloc e=>match ty e with
  | some i=>bif Nat.beq e ty.b then (match i.zero with | [x,y]=>some (.Bw e x y) | _=>none) else some (.new e i.zero)
  | none=>none
 | .box e x=>match cr ty x with | some x=>some (.box e x) | none=>none
 | .build t ps=>match ty t with
  | some i=>match i.desc with
   | .rF fs _=>match zH ty (GN ty fs) ps.toList with | some l=>some (.bld i.zero l) | none=>none
   | .arr _ e=>match ty e with
    | some j=>match zH ty (λk=>some (k*j.size,j.size)) ps.toList with | some l=>some (.bld i.zero l) | none=>none
    | none=>none
   | _=>none
  | none=>none
 | .buildSlice t len ps=>match ty t with
  | some i=>match i.desc with
   | .slice e=>match ty e with
    | some j=>bif Nat.ble (len*j.size) 16777216 then
     (match zH ty (λk=>some (k*j.size,j.size)) ps.toList with | some l=>some (.bsl e (gu j.zero len) len l) | none=>none) else none
    | none=>none
   | _=>none
  | none=>none
 | .load t a=>match ty t,cr ty a with
  | some i,some a=>some (.ld i.desc.agg i.size a)
  | _,_=>none
 | .store t a v=>match ty t,cr ty a,cr ty v with
  | some i,some a,some v=>some (.st i.size a v)
  | _,_,_=>none
 | .nilCheck x=>match cr ty x with | some x=>some (.nck x) | none=>none
 | .binOp op t x y _=>match cr ty x,cr ty y with
  | some a,some b=>bif isEq op then (match Jm ty t x y with | some k=>some (.bin op k a b) | none=>none) else some (.bin op (.one .bool) a b)
  | _,_=>none
 | .unOp op _ x=>match cr ty x with | some x=>some (.un op x) | none=>none
 | .convert a b x=>match ty a,ty b,cr ty x with
  | some i,some j,some x=>match i.desc,j.desc with
   | .int _,.int k=>some (.cv (.toInt k) x)
   | .str,.str=>some (.cv .same x)
   | .int _,.str=>some (.cv .zB x)
   | .ptr e,.BE=>bif Nat.beq e ty.b then some (.cv .Je x) else none
   | .BE,.ptr e=>bif Nat.beq e ty.b then some (.cv (.Jf e) x) else none
   | .slice e,.str=>match ty e with | some ⟨.int .u8,_,_,_⟩=>some (.cv .zA x) | _=>none
   | .str,.slice e=>match ty e with
    | some ⟨.int .i32,_,_,_⟩=>some (.cv (.J2 e) x)
    | _=>none
   | _,_=>none
  | _,_,_=>none
 | .makeInterface t x=>match ty t,cr ty x with
  | some i,some x=>match i.desc with
   | .iface | .other=>none
   | _=>some (.mif t x)
  | _,_=>none
 | .makeFunc fn a c=>match fn with
  | .func f=>match pK ty a.toList,pK ty c.toList with
   | some a,some c=>some (.mfn f a c)
   | _,_=>none
  | _=>none
 | .makeMap t r=>match ty t with
  | some i=>match i.desc,r with
   | .map _ _,none=>some .mmap
   | .map _ _,some (.const (.int _ _))=>some .mmap
   | _,_=>none
  | none=>none
 | .makeSlice t l c=>match ty t,cr ty l,cr ty c with
  | some i,some l,some c=>match i.desc with
   | .slice e=>match ty e with | some j=>some (.msl e j.size j.bytes j.zero l c) | none=>none
   | _=>none
  | _,_,_=>none
 | .slice t x lo hi mx=>match ty t,cr ty x,uG ty lo,uG ty hi,uG ty mx with
  | some i,some x,some lo,some hi,some mx=>bif mx.isSome&&hi.isNone then none else match i.desc with
   | .str=>some (.sli .str x lo hi mx)
   | .slice e=>match ty e with | some j=>some (.sli (.sl j.size) x lo hi mx) | none=>none
   | .arr n e=>match ty e with | some j=>some (.sli (.arr n j.size) x lo hi mx) | none=>none
   | _=>none
  | _,_,_,_,_=>none
 | .fieldAddr s x f=>match ty s,cr ty x with
  | some i,some x=>match i.desc with
   | .rF fs _=>match GN ty fs f with
    | some (o,sz)=>bif Nat.beq sz 0 then none else some (.fad o x)
    | none=>none
   | _=>none
  | _,_=>none
 | .field s x f=>match ty s,cr ty x with
  | some i,some x=>match i.desc with
   | .rF fs _=>match nth fs f with
    | some (t,o)=>match ty t with | some j=>some (.fld j.desc.agg o j.size x) | none=>none
    | none=>none
   | _=>none
  | _,_=>none
 | .indexAddr t x ix=>match ty t,cr ty x,cr ty ix with
  | some i,some x,some ix=>match i.desc with
   | .arr n e=>match ty e with | some j=>some (.iad (some n) j.size x ix) | none=>none
   | .slice e=>match ty e with | some j=>some (.iad none j.size x ix) | none=>none
   | _=>none
  | _,_,_=>none
 | .index t x ix=>match ty t,cr ty x,cr ty ix with
  | some i,some x,some ix=>match i.desc with
   | .str=>some (.idx none x ix)
   | .arr n e=>match ty e with | some j=>some (.idx (some (n,j.size,j.desc.agg)) x ix) | none=>none
   | _=>none
  | _,_,_=>none
 | .lookup t m k ok=>match ty t,cr ty m,cr ty k with
  | some i,some m,some k=>match i.desc with
   | .map kt e=>match ty e with
    | some j=>match mg ty kt with | some q=>some (.lkp q j.zeroV ok m k) | none=>none
    | none=>none
   | _=>none
  | _,_,_=>none
 | .mapUpdate t m k v | .insert t m k v=>match ty t,cr ty m,cr ty k,cr ty v with
  | some i,some m,some k,some v=>match i.desc with
   | .map kt _=>match mg ty kt with | some q=>some (.Jh q m k v) | none=>none
   | _=>none
  | _,_,_,_=>none
 | .range t x=>match ty t,cr ty x with
  | some i,some x=>match i.desc with
   | .str=>some (.Dp false x)
   | .map _ _=>some (.Dp true x)
   | _=>none
  | _,_=>none
 | .next x s=>match cr ty x with | some x=>bif s then some (.Dq s x) else none | none=>none
 | .entry x=>match cr ty x with | some x=>some (.J3 x) | none=>none
 | .typeAssert x _ t ok=>match ty t,cr ty x with
  | some i,some x=>match i.desc with
   | .iface | .other=>none
   | _=>some (.tas t i.zeroV ok x)
  | _,_=>none
 | .extract x i=>match cr ty x with | some x=>some (.ext x i) | none=>none
 | .call c=>sO ty c
 | .panic x=>match cr ty x with | some x=>some (.tW x) | none=>none
 | _=>none
def xJ(ops:Array Oper):Option (Nat×Bool)->Option (Option (K×Bool))
 | none=>some none
 | some (j,w)=>match (ops[j]?).bind (·.dst) with
  | some d=>some (some (cT d,w))
  | none=>none
def jU(ty:Ty)(ops:Array Oper)(o:Oper)(ah:Nat):AO:=
 match xJ ops o.guard with
 | some g=>{ dst:=o.dst.map cT,op:=(en ty o.op).getD .bad,guard:=g,ah}
 | none=>{ dst:=none,op:=.bad,guard:=none,ah}
def eO(ty:Ty)(ops:Array Oper):List Oper->List Nat->List AO
 | [],_=>[]
 | o::l,[]=>jU ty ops o 0::eO ty ops l []
 | o::l,a::as=>jU ty ops o a::eO ty ops l as
def A.fj:A->List aJ
 | .mv x | .box _ x | .ld _ _ x | .nck x | .un _ x | .cv _ x | .mif _ x | .fad _ x | .fld _ _ _ x | .Dp _ x | .Dq _ x | .J3 x | .tas _ _ _ x | .ext x _ | .len _ x | .cap _ x | .Ji _ x | .tW x | .Jg x=>[x]
 | .pick c a b=>[c,a,b]
 | .bld _ ps | .bsl _ _ _ ps=>ps.map (·.2.2)
 | .st _ a x | .bin _ _ a x | .iad _ _ a x | .idx _ a x | .lkp _ _ _ a x | .app _ _ _ _ _ a x | .zD _ a x | .del _ a x | .msl _ _ _ _ a x | .zC _ a x=>[a,x]
 | .Jh _ a b c=>[a,b,c]
 | .mfn _ a c=>a++c
 | .sli _ x lo hi mx=>x::(lo.toList++(hi.toList++mx.toList))
 | .mm _ l=>l
 | .hU f l=>f::l
 | .new _ _ | .Bw _ _ _ | .mmap | .bad=>[]
def looks:List aJ->List K
 | []=>[]
 | .t k::l=>k::looks l
 | .c _::l=>looks l
def AO.looks(o:AO):List K:=(match o.guard with | some (k,_)=>[k] | none=>[])++Ev.looks o.op.fj
def kJ:A->Bool
 | .hU _ _=>true
 | op=>match cls op with | .kJ=>true | _=>false
def zI(i:Nat)(a b:AO):Bool:=
 Nat.testBit b.ah i||
 (!(kJ a.op&&kJ b.op)&&
  (match a.dst with | some d=>!(b.looks.any (K.beq d)) | none=>true)&&
  (match b.dst with | some d=>!(a.looks.any (K.beq d)) | none=>true))
def BF(a b:AO):Bool:=
 match a.dst,b.dst with
 | some d,some e=>!(K.beq d e)
 | _,_=>true
def xK(eB:List Nat):List Edge->Nat
 | []=>0
 | e::l=>bif Region.binds .any e then Nat.lor (Nat.lor (Nat.pow 2 e.on) ((nth eB e.on).getD 0)) (xK eB l) else xK eB l
def DC(i:Nat):List Edge->Bool
 | []=>true
 | e::l=>(!(Region.binds .any e)||Nat.blt e.on i)&&DC i l
def GO(i:Nat)(a:AO):List AO->Bool
 | []=>true
 | b::l=>zI i a b&&BF a b&&GO i a l
def xL(eB:List Nat):Nat->List Oper->List AO->Bool
 | _,[],[]=>true
 | i,o::os,a::l=>Nat.beq a.ah (xK eB o.after.toList)&&DC i o.after.toList&&GO i a l&&xL eB (Nat.succ i) os l
 | _,_,_=>false
def DD:List AO->List K
 | []=>[]
 | o::l=>match o.dst with | some d=>d::DD l | none=>DD l
def AC.writes:AC->List K
 | .reg l | .regd l=>DD l
 | .seq a b | .cond _ a b=>a.writes++b.writes
 | .block _ c | .loop c | .scope c=>c.writes
 | .pH d _ l c _=>(match d with | some d=>[d] | none=>[])++DD l++c.writes
 | _=>[]
def uH(ty:Ty)(c:AC):Code->AC
 | .seq (.region _ ⟨⟨d,.next x false,_,_,_,none⟩::_⟩ false) _=>match c,cr ty x with
  | .seq (.reg (_::l)) c,some x=>
   let d:=d.map cT
   .pH d x l c ((match d with | some d=>[d] | none=>[])++DD l++c.writes)
  | _,_=>.bad
 | _=>.loop c
def dL(ty:Ty):Code->AC
 | .skip=>.skip
 | .region _ ops draw=>bif draw then (bif xL (Region.before ops).toList 0 ops.toList (eO ty ops ops.toList (Region.before ops).toList) then .regd (eO ty ops ops.toList (Region.before ops).toList) else .bad) else .reg (eO ty ops ops.toList [])
 | .seq a b=>.seq (dL ty a) (dL ty b)
 | .cond c a b=>match cr ty c with | some c=>.cond c (dL ty a) (dL ty b) | none=>.bad
 | .block id c=>.block id (dL ty c)
 | .loop c=>uH ty (dL ty c) c
 | .rangeFunc f ps as body=>match cr ty f with | some f=>.mf f (ps.toList.map cT) (dL ty as) (dL ty body) | none=>.bad
 | .exit id=>.exit id
 | .scope c=>.scope (dL ty c)
 | .label _=>.skip
 | .ret=>.ret
 | _=>.bad
def GP(ty:Ty):ResultVar->Option AR
 | .tmp t=>some (.t (cT t))
 | .cell a t=>match ty t with | some i=>some (.cell (cT a) i.desc.agg i.size) | none=>none
def xM(ty:Ty):List ResultVar->Option (List AR)
 | []=>some []
 | r::l=>match GP ty r,xM ty l with
  | some a,some as=>some (a::as)
  | _,_=>none
def iZ(N:Nat):List Oper->Bool
 | []=>true
 | o::l=>(match o.dst with | some d=>Nat.blt d N | none=>true)&&iZ N l
def oG(N:Nat):List Nat->Bool
 | []=>true
 | d::l=>Nat.blt d N&&oG N l
def within(N:Nat):Code->Bool
 | .region _ ops _=>iZ N ops.toList
 | .seq a b=>within N a&&within N b
 | .cond _ a b=>within N a&&within N b
 | .block _ c=>within N c
 | .loop c=>within N c
 | .scope c=>within N c
 | .rangeFunc _ ps as body=>oG N ps.toList&&within N as&&within N body
 | _=>true
def zJ(ty:Ty)(f:Func):Option AF:=
 match f.body,xM ty f.results.toList with
 | some c,some rs=>bif within f.ntmps c then
  some { jT:=(List.range (f.params.size+f.nfree)).map cT,res:=rs,body:=dL ty c}
  else none
 | _,_=>none
def xN(ty:Ty)(fn:Func)(cl:Nat->Option Func):Option Bx:=
 match fn.body,xM ty fn.results.toList with
 | some (.seq (.region _ pre false) (.seq (.region _ ⟨[⟨some s,.makeFunc (.func g) ⟨[]⟩ hZ,_,_,_,none⟩,⟨none,.defer ⟨.value (.tmp s'),⟨[]⟩,_⟩,_,_,_,none⟩]⟩ false) rest)),some rs=>
  match pK ty hZ.toList,cl g with
  | some DE,some cf=>match cf.body with
   | some (.seq (.region _ ⟨[⟨some q,.call ⟨.builtin .recover,_,_⟩,_,_,_,none⟩]⟩ false) oH)=>
    bif Nat.beq s s'&&(iZ fn.ntmps pre.toList&&(Nat.blt s fn.ntmps&&(within fn.ntmps rest&&(Nat.blt q cf.ntmps&&(within cf.ntmps oH&&Nat.beq cf.results.size 0))))) then
     some { jT:=(List.range (fn.params.size+fn.nfree)).map cT,res:=rs,pre:=eO ty pre pre.toList [],J4:=cT s,g:=g,hZ:=DE,body:=dL ty rest,J5:=(List.range (cf.params.size+cf.nfree)).map cT,J6:=cT q,J7:=dL ty oH}
    else none
   | _=>none
  | _,_=>none
 | _,_=>none
def K.num:K->Nat
 | .h=>1
 | .o p=>2*p.num
 | .i p=>2*p.num+1
theorem K.xO(k:K):0<k.num:=by
 induction k with
 | h=>simp[K.num]
 | o p ih=>simp[K.num];omega
 | i p ih=>simp[K.num]
theorem K.ZW{a b:K}(h:a.num=b.num):a=b:=by
 induction a generalizing b with
 | h=>
  cases b with
  | h=>rfl
  | o p=>have:=p.xO;simp only[K.num]at h;omega
  | i p=>have:=p.xO;simp only[K.num]at h;omega
 | o p ih=>
  cases b with
  | h=>have:=p.xO;simp only[K.num]at h;omega
  | o q=>simp only[K.num]at h;rw[ih (b:=q) (by omega)]
  | i q=>simp only[K.num]at h;omega
 | i p ih=>
  cases b with
  | h=>have:=p.xO;simp only[K.num]at h;omega
  | o q=>simp only[K.num]at h;omega
  | i q=>simp only[K.num]at h;rw[ih (b:=q) (by omega)]
theorem K.fH(k:K):k.succ.num=k.num+1:=by
 induction k with
 | h=>rfl
 | o p ih=>simp[K.succ,K.num]
 | i p ih=>simp only[K.succ,K.num,ih];omega
theorem K.ZX(f n:Nat)(h:n<=f)(hn:0<n):(K.DB f n).num=n:=by
 induction f generalizing n with
 | zero=>omega
 | succ f ih=>
  simp only[K.DB];by_cases h1:n<=1
  ·have:Nat.ble n 1=true:=by simpa using h1
   simp[this,K.num];omega
  ·have:Nat.ble n 1=false:=by cases hb:Nat.ble n 1 with | false=>rfl | true=>exact absurd (nJ hb) h1
   simp only[this,cond_false];by_cases h2:n % 2=0
   ·have:Nat.beq (Nat.mod n 2) 0=true:=by show Nat.beq (n % 2) 0=true;rw[h2];rfl
    simp only[this,cond_true,K.num];have:=ih (Nat.div n 2) (by show n / 2<=f;omega) (by show 0<n / 2;omega);rw[this];show 2*(n / 2)=n;omega
   ·have:Nat.beq (Nat.mod n 2) 0=false:=by
     show Nat.beq (n % 2) 0=false;have:n % 2=1:=by omega
     rw[this];rfl
    simp only[this,cond_false,K.num];have:=ih (Nat.div n 2) (by show n / 2<=f;omega) (by show 0<n / 2;omega);rw[this];show 2*(n / 2)+1=n;omega
theorem zK(t:Nat):(cT t).num=t+1:=K.ZX _ _ (Γ _) (Nat.succ_pos _)
theorem GQ{a b:Nat}(h:cT a=cT b):a=b:=by have:=congrArg K.num h;rw[zK,zK]at this;omega
theorem K.beq_eq{a b:K}(h:K.beq a b=true):a=b:=by
 induction a generalizing b with
 | h=>cases b<;>simp_all [K.beq]
 | o p ih=>cases b<;>simp_all [K.beq];exact ih h
 | i p ih=>cases b<;>simp_all [K.beq];exact ih h
instance:DecidableEq K:=λa b=>if h:K.num a=K.num b then isTrue (K.ZW h) else isFalse λe=>h (by rw[e])
theorem K.beq_refl(a:K):K.beq a a=true:=by
 induction a with
 | h=>rfl
 | o p ih=>exact ih
 | i p ih=>exact ih
theorem Tr.iz{α:Type}(k:K):(Tr.e:Tr α).get k=none:=by cases k<;>rfl
theorem Tr.ZY{α:Type}(v:Option α)(k k':K):(Tr.zE v k).get k'=if k'=k then v else none:=by
 induction k generalizing k' with
 | h=>cases k'<;>simp[Tr.zE,Tr.get,Tr.iz]
 | o p ih=>cases k'<;>simp[Tr.zE,Tr.get,Tr.iz,ih]
 | i p ih=>cases k'<;>simp[Tr.zE,Tr.get,Tr.iz,ih]
theorem Tr.gb{α:Type}(v:Option α)(t:Tr α)(k k':K):(Tr.put v t k).get k'=if k'=k then v else t.get k':=by
 induction t generalizing k k' with
 | e=>simp[Tr.put,Tr.ZY,Tr.iz]
 | n w l r lU tX=>
  cases k<;>cases k'<;>simp[Tr.put,Tr.get,lU,tX]
theorem Tr.GR{α:Type}(v:Option α)(t:Tr α)(k:K):(Tr.put v t k).get k=v:=by simp[Tr.gb]
theorem Tr.GS{α:Type}(v:Option α)(t:Tr α){k k':K}(h:k'≠k):(Tr.put v t k).get k'=t.get k':=by simp[Tr.gb,h]
theorem pL{α:Type}(l:List α)(n:Nat):nth l n=l[n]?:=by
 induction l generalizing n with
 | nil=>simp[nth]
 | cons a l ih=>cases n with
  | zero=>simp[nth]
  | succ n=>simp[nth,ih]
theorem GU{α:Type}{n:Nat}{l r:List α}(h:takeN n l=some r):r=l.take n/\n<=l.length:=by
 induction n generalizing l r with
 | zero=>simp[takeN]at h;simp[h]
 | succ n ih=>
  cases l with
  | nil=>simp[takeN]at h
  | cons a l=>
   simp only[takeN]at h;split at h
   ·rename_i l' hl;obtain⟨rfl,hn⟩:=ih hl;injection h with h;subst h;exact⟨by simp,by simp;omega⟩
   ·cases h
theorem Kg{α:Type}{n:Nat}{l r:List α}(h:pI n l=some r):r=l.drop n/\n<=l.length:=by
 induction n generalizing l r with
 | zero=>simp[pI]at h;simp[h]
 | succ n ih=>
  cases l with
  | nil=>simp[pI]at h
  | cons a l=>
   simp only[pI]at h;obtain⟨rfl,hn⟩:=ih h;exact⟨by simp,by simp;omega⟩
theorem oI{α:Type}{l r:List α}{o n:Nat}(h:dt l o n=some r):r=(l.drop o).take n/\o+n<=l.length:=by
 unfold dt at h;split at h
 ·rename_i l' hl;obtain⟨rfl,h1⟩:=Kg hl;obtain⟨rfl,h2⟩:=GU h;rw[sK]at h2;exact⟨rfl,by omega⟩
 ·cases h
theorem ZZ{α:Type}{vs l r:List α}(h:over vs l=some r):r.length=l.length/\vs.length<=l.length/\∀i,r[i]?=if i<vs.length then vs[i]? else l[i]?:=by
 induction vs generalizing l r with
 | nil=>simp[over]at h;simp[h]
 | cons v vs ih=>
  cases l with
  | nil=>simp[over]at h
  | cons a l=>
   simp only[over]at h;split at h
   ·rename_i l' hl;injection h with h;subst h;obtain⟨h1,h2,h3⟩:=ih hl;refine⟨by simp[h1],by simp[h2],λi=>?_⟩;cases i with
    | zero=>simp
    | succ i=>simp[h3 i]
   ·cases h
theorem Kh{α:Type}{vs l r:List α}{o:Nat}(h:eW vs l o=some r):
 r.length=l.length/\o+vs.length<=l.length/\∀i,r[i]?=if o<=i/\i<o+vs.length then vs[i - o]? else l[i]?:=by
 induction o generalizing l r with
 | zero=>
  have h':over vs l=some r:=by cases l<;>simpa[eW]using h
  obtain⟨h1,h2,h3⟩:=ZZ h';refine⟨h1,by omega,λi=>?_⟩;rw[h3 i];simp
 | succ o ih=>
  cases l with
  | nil=>simp[eW]at h
  | cons a l=>
   simp only[eW]at h;split at h
   ·rename_i l' hl;injection h with h;subst h;obtain⟨h1,h2,h3⟩:=ih hl;refine⟨by simp[h1],by simp;omega,λi=>?_⟩;cases i with
    | zero=>simp
    | succ i=>
     simp only[rn,h3 i];by_cases hi:o<=i/\i<o+vs.length
     ·rw[az hi,az (by omega)];congr 1;omega
     ·rw[ai hi,ai (by omega)]
   ·cases h
def cH:Nat->Nat->List UInt8
 | 0,_=>[]
 | l+1,n=>UInt8.ofNat (n % 256)::cH l (n / 256)
def strOf(l n:Nat):ByteArray:=⟨(cH l n).toArray⟩
theorem rG(l n:Nat):(cH l n).length=l:=by
 induction l generalizing n with
 | zero=>rfl
 | succ l ih=>simp[cH,ih]
theorem uI(l n:Nat):(strOf l n).size=l:=by show(cH l n).toArray.size=l;simp[rG]
theorem PH(l n i:Nat)(h:i<l):(cH l n)[i]?=some (UInt8.ofNat (n / 256 ^ i % 256)):=by
 induction l generalizing n i with
 | zero=>omega
 | succ l ih=>
  cases i with
  | zero=>simp[cH]
  | succ i=>
   simp only[cH,rn];rw[ih (n / 256) i (by omega),Dh,gW,dY]
theorem Z0(l n l' n':Nat)(h:n<256 ^ l):cH l n++cH l' n'=cH (l+l') (n+n'*256 ^ l):=by
 induction l generalizing n with
 | zero=>
  have:n=0:=by simpa using h
  simp[cH,this]
 | succ l ih=>
  rw[Nat.succ_add];simp only[cH,vM];have hp:256 ^ (l+1)=256 ^ l*256:=gW ..;have e1:(n+n'*256 ^ (l+1)) % 256=n % 256:=by rw[hp,←iX,Nat.add_mul_mod_self_right]
  have e2:(n+n'*256 ^ (l+1)) / 256=n / 256+n'*256 ^ l:=by rw[hp,←iX,Nat.add_mul_div_right _ _ (by omega)]
  rw[e1,e2,ih (n / 256) (by rw[hp]at h;omega)]
theorem Z1{l n n':Nat}(h:n<256 ^ l)(h':n'<256 ^ l)(e:cH l n=cH l n'):n=n':=by
 induction l generalizing n n' with
 | zero=>simp at h h';omega
 | succ l ih=>
  simp only[cH,List.cons.injEq]at e;have hp:256 ^ (l+1)=256 ^ l*256:=gW ..;have e1:n % 256=n' % 256:=by have:=congrArg UInt8.toNat e.1;simpa using this
  have e2:=ih (by rw[hp]at h;omega) (by rw[hp]at h';omega) e.2;omega
theorem Z2(l n a:Nat)(h:a<=l):(cH l n).drop a=cH (l - a) (n / 256 ^ a):=by
 induction a generalizing l n with
 | zero=>simp
 | succ a ih=>
  cases l with
  | zero=>omega
  | succ l=>
   simp only[cH,Dn];rw[ih l (n / 256) (by omega),Dh,gW,dY,Nat.succ_sub_succ]
theorem Z3(l n a:Nat)(h:a<=l):(cH l n).take a=cH a (n % 256 ^ a):=by
 induction a generalizing l n with
 | zero=>simp[cH]
 | succ a ih=>
  cases l with
  | zero=>omega
  | succ l=>
   have hp:256 ^ (a+1)=256*256 ^ a:=by rw[gW,dY]
   simp only[cH,sG];rw[ih l (n / 256) (by omega),hp,Nat.mod_mul_right_mod,Nat.mod_mul_right_div_self]
theorem Z4(l:List UInt8):bR l<256 ^ l.length:=by
 induction l with
 | nil=>simp[bR]
 | cons b l ih=>
  have:=b.toNat_lt;simp only[bR,fG,gW];omega
theorem Ki(l:List UInt8):cH l.length (bR l)=l:=by
 induction l with
 | nil=>rfl
 | cons b l ih=>
  have:=b.toNat_lt;simp only[fG,cH,bR];have e1:(b.toNat+256*bR l) % 256=b.toNat:=by omega
  have e2:(b.toNat+256*bR l) / 256=bR l:=by omega
  rw[e1,e2,ih];simp
theorem PI(s:ByteArray):strOf s.size (bR s.data.toList)=s:=by have:=Ki s.data.toList;rw[Bq]at this;show(⟨(cH s.data.size (bR s.data.toList)).toArray⟩:ByteArray)=s;rw[this]
section
def _root_.Go.Value.sP:Value->Bool
 | .agg _ | .tuple _=>false
 | _=>true
def bA{α:Type}(P:Program)(s:Sem α)(w:World)(Φ:α->World->Prop):Prop:=∃a w',s.run P w=.ok a w'/\Φ a w'
section Z5
variable {α β:Type}{P:Program}{w:World}
theorem bA.mono{s:Sem α}{Φ Ψ:α->World->Prop}(h:bA P s w Φ)(k:∀a w',Φ a w'->Ψ a w'):bA P s w Ψ:=
 let⟨a,w',h1,h2⟩:=h;⟨a,w',h1,k _ _ h2⟩
theorem an{a:α}{Φ:α->World->Prop}(h:Φ a w):bA P (pure a:Sem α) w Φ:=⟨a,w,rfl,h⟩
theorem Δ{x:Sem α}{f:α->Sem β}{Φ:β->World->Prop}(h:bA P x w λa w'=>bA P (f a) w' Φ):bA P (x >>=f) w Φ:=by obtain⟨a,w',h1,b,xf,h2,h3⟩:=h;exact⟨b,xf,by show(Sem.bind x f).run P w=_;rw[Sem.run_bind',h1];exact h2,h3⟩
theorem DF{Φ:Program->World->Prop}(h:Φ P w):bA P program w Φ:=⟨P,w,rfl,h⟩
theorem PJ{q:Question}{Φ:Nat->World->Prop}(h:∀t d,d=w.drawn\/d=w.drawn+1->Φ (q.cut t) { w with drawn:=d})(h0:q.forced=true->Φ 0 w):bA P (choose q) w Φ:=by
 by_cases hq:q.forced=true
 ·exact⟨0,w,by simp[choose,Sem.run,hq],h0 hq⟩
 ·exact⟨q.cut (w.tape w.drawn q),_,by simp[choose,Sem.run,hq],h _ _ (.inr U)⟩
theorem Kj{a:Addr}{m:Mode}{v:Value}{Φ:Value->World->Prop}(hc:w.cell? a=some v)(h:Φ v w):bA P (load a m) w Φ:=
 ⟨v,w,by simp[load,Sem.run,hc],h⟩
theorem Z6{a:Addr}{m:Mode}{v v0:Value}{Φ:Unit->World->Prop}(h1:v.sP=true)(hc:w.cell? a=some v0)(hf:w.frozen? a=false)
 (h:Φ () (w.setCell a v)):bA P (store a v m) w Φ:=by
 refine⟨(),_,?_,h⟩;cases v<;>simp_all [store,Sem.run,Value.sP]
theorem vV{o:Obj}{Φ:Nat->World->Prop}(h:Φ w.heap.size { w with heap:=w.heap.push o}):bA P (newObj o) w Φ:=⟨_,_,rfl,h⟩
theorem xP{r:Nat}{o:Obj}{Φ:Obj->World->Prop}(hr:w.heap[r]?=some o)(ho:∀c e f,o≠.cells c e f)(h:Φ o w):bA P (getObj r) w Φ:=by refine⟨o,w,?_,h⟩;simp only[getObj,Sem.run,hr]
theorem DG{r:Nat}{o o':Obj}{Φ:Unit->World->Prop}(hr:w.heap[r]?=some o)(ho:∀c e f,o≠.cells c e f)
 (h:Φ () { w with heap:=w.heap.setIfInBounds r o'}):bA P (setObj r o') w Φ:=by
 refine⟨(),_,?_,h⟩;simp only[setObj,Sem.run,hr]
end Z5
def Kk(P:Program)(t:TypeId)(d:TD):Prop:=
 match d with
 | .bool=>P.underlying t=some .bool
 | .int k=>P.underlying t=some (.int k)
 | .str=>P.underlying t=some .string
 | .ptr e=>P.underlying t=some (.pointer e)
 | .slice e=>P.underlying t=some (.slice e)
 | .arr n e=>P.underlying t=some (.array n e)
 | .map k e=>P.underlying t=some (.map k e)
 | .rF fs plain=>∃l,P.underlying t=some (.struct l)/\fs=l.toList.map (λf=>(f.type,f.offset))/\(∀f∈l.toList,∃ti,P.info? f.type=some ti)/\(plain=true->(∀f∈l,f.name ≠ "_")/\P.stoodInHeld t=false/\P.eqGuardType P.depth t=false)
 | .func=>∃a b c,P.underlying t=some (.func a b c)
 | .iface=>∃ms,P.underlying t=some (.interface ms)
 | .BE=>P.underlying t=some .unsafePointer
 | .other=>True
structure Loc where
 blk:Nat
 off:Nat
 room:Nat
abbrev Env:=K->Option Loc
mutual
inductive aC (η:Env):V->Value->Prop
 | b (x):aC η (.b x) (.bool x)
 | i (k n):aC η (.i k n) (.int k n)
 | s (l n):n<256 ^ l->aC η (.s l n) (.string (strOf l n))
 | np:aC η .np (.pointer none)
 | p (b o L):η b=some L->aC η (.p b o) (.pointer (some ⟨L.blk,L.off+o,none⟩))
 | ns:aC η .ns (.slice none 0 0)
 | sl (b o l c L):η b=some L->aC η (.sl b o l c) (.slice (some ⟨L.blk,L.off+o,none⟩) l c)
 | su (b o l e L c):η b=some L->l<=c->o+c*e<=L.room->aC η (.su b o l e) (.slice (some ⟨L.blk,L.off+o,none⟩) l c)
 | se (b o e A L):η b=some L->aC η (.su b o 0 e) (.slice (some A) 0 0)
 | nm:aC η .nm (.map none)
 | m (b L):η b=some L->aC η (.m b) (.map (some L.blk))
 | nf:aC η .nf .nilFunc
 | f (g a c a' c'):bB η a a'->bB η c c'->aC η (.f g a c) (.func (.func g) ⟨a'⟩ ⟨c'⟩)
 | y (l L):η l=some L->aC η (.y l) (.func (.yield L.blk) #[] #[])
 | ni:aC η .ni .nilIface
 | lD (t v v'):aC η v v'->aC η (.lD t v) (.iface t v')
 | a (l l'):bB η l l'->aC η (.a l) (.agg ⟨l'⟩)
 | u (l l'):bB η l l'->aC η (.u l) (.tuple ⟨l'⟩)
 | q (v):aC η .q v
inductive bB (η:Env):List V->List Value->Prop
 | nil:bB η [] []
 | cons (v v' l l'):aC η v v'->bB η l l'->bB η (v::l) (v'::l')
end
def Env.le(η η':Env):Prop:=∀k L,η k=some L->η' k=some L
theorem Env.le.refl(η:Env):η.le η:=λ_ _ h=>h
theorem Env.le.trans{a b c:Env}(h:a.le b)(h':b.le c):a.le c:=λk L e=>h' k L (h k L e)
mutual
theorem aC.mono {η η':Env} (hη:η.le η'):∀{v:V} {x:Value},aC η v x->aC η' v x
 | _,_,.b x=>.b x
 | _,_,.i k n=>.i k n
 | _,_,.s l n h=>.s l n h
 | _,_,.np=>.np
 | _,_,.p b o L h=>.p b o L (hη _ _ h)
 | _,_,.ns=>.ns
 | _,_,.sl b o l c L h=>.sl b o l c L (hη _ _ h)
 | _,_,.su b o l e L c h h1 h2=>.su b o l e L c (hη _ _ h) h1 h2
 | _,_,.se b o e A L h=>.se b o e A L (hη _ _ h)
 | _,_,.nm=>.nm
 | _,_,.m b L h=>.m b L (hη _ _ h)
 | _,_,.nf=>.nf
 | _,_,.f g a c a' c' h h'=>.f g a c a' c' (bB.mono hη h) (bB.mono hη h')
 | _,_,.y l L h=>.y l L (hη _ _ h)
 | _,_,.ni=>.ni
 | _,_,.lD t v v' h=>.lD t v v' (aC.mono hη h)
 | _,_,.a l l' h=>.a l l' (bB.mono hη h)
 | _,_,.u l l' h=>.u l l' (bB.mono hη h)
 | _,_,.q v=>.q v
theorem bB.mono {η η':Env} (hη:η.le η'):∀{v:List V} {x:List Value},bB η v x->bB η' v x
 | _,_,.nil=>.nil
 | _,_,.cons v v' l l' h h'=>.cons v v' l l' (aC.mono hη h) (bB.mono hη h')
end
section lists
variable {η:Env}
theorem bB.length{l:List V}{l':List Value}(h:bB η l l'):l.length=l'.length:=by
 induction l generalizing l' with
 | nil=>cases h;rfl
 | cons v l ih=>cases h with | cons _ v' _ l' h1 h2=>simp[ih h2]
theorem bB.get{l:List V}{l':List Value}(h:bB η l l'){i:Nat}{v:V}(hi:l[i]?=some v):∃v',l'[i]?=some v'/\aC η v v':=by
 induction l generalizing l' i with
 | nil=>simp at hi
 | cons a l ih=>
  cases h with
  | cons _ a' _ l' h1 h2=>
   cases i with
   | zero=>simp at hi;subst hi;exact⟨a',by simp,h1⟩
   | succ i=>simp at hi ⊢;exact ih h2 hi
theorem bB.GV{l:List V}{l':List Value}(hn:l.length=l'.length)(h:∀(i:Nat) (v:V),l[i]?=some v->∃v',l'[i]?=some v'/\aC η v v'):bB η l l':=by
 induction l generalizing l' with
 | nil=>cases l' with | nil=>exact .nil | cons=>simp at hn
 | cons a l ih=>
  cases l' with
  | nil=>simp at hn
  | cons a' l'=>
   obtain⟨v',h1,h2⟩:=h 0 a (by simp);simp at h1;subst h1;exact .cons _ _ _ _ h2 (ih (by simpa using hn) λi v hi=>by have:=h (i+1) v (by simpa using hi);simpa using this)
theorem bB.append{l r:List V}{l' r':List Value}(h:bB η l l')(h':bB η r r'):bB η (l++r) (l'++r'):=by
 induction l generalizing l' with
 | nil=>cases h;exact h'
 | cons a l ih=>cases h with | cons _ a' _ l' h1 h2=>exact .cons _ _ _ _ h1 (ih h2)
theorem bB.sub{l:List V}{l':List Value}(h:bB η l l')(o n:Nat):bB η ((l.drop o).take n) ((l'.drop o).take n):=by
 refine bB.GV (by simp[h.length]) λi v hi=>?_;rw[List.getElem?_take]at hi ⊢;split at hi
 ·rename_i ψ;rw[az ψ];rw[Bs]at hi ⊢;exact h.get hi
 ·cases hi
theorem aC.one{v:V}{x:Value}(h:aC η v x)(h1:v.one=true):x.sP=true/\x.cells=#[x]/\v.cells=[v]:=by cases h<;>first | (cases h1;done) | exact⟨rfl,rfl,rfl⟩
theorem bB.one{l:List V}{l':List Value}(h:bB η l l')(h1:bN l=true):∀y∈l',y.sP=true:=by
 induction l generalizing l' with
 | nil=>cases h;simp
 | cons v l ih=>
  cases h with
  | cons _ v' _ l' ha hb=>
   simp only[bN,bG]at h1;intro y hy;rcases fY.1 hy with rfl | hy
   ·exact(ha.one h1.1).1
   ·exact ih hb h1.2 y hy
theorem aC.cells{v:V}{x:Value}(h:aC η v x)(h1:bN v.cells=true):bB η v.cells x.cells.toList/\∀y∈x.cells.toList,y.sP=true:=by
 by_cases ho:v.one=true
 ·obtain⟨a,b,c⟩:=h.one ho;rw[b,c];exact⟨.cons _ _ _ _ h .nil,by simpa using a⟩
 ·cases h<;>first | exact absurd rfl ho | skip
  case a l l' hl=>exact⟨hl,hl.one h1⟩
  case u l l' hl=>simp[V.cells,bN,V.one]at h1
  case q=>simp[V.cells,bN,V.one]at h1
end lists
def O.mut:O->Bool
 | .c _ _ _ | .b _ _ _ | .mp _ _ | .it _ _ _ | .mi _ _ | .lp _ _ _ _ _ _=>true
 | _=>false
def eP(η:Env):List (V×V×Nat)->List MapEntry->Prop
 | [],[]=>True
 | (k,v,b)::l,e::l'=>aC η k e.key/\aC η v e.val/\e.born=b/\eP η l l'
 | _,_=>False
def br(η:Env)(T:Tr V)(tmps:Array Value):Prop:=∀(t:Nat) (v:V),T.get (cT t)=some v->∃x,tmps[t]?=some x/\aC η v x
def mO:Ex->Option Code
 | .normal=>none
 | .exit id=>some (.exit id)
 | .ret=>some .ret
 | .panic _=>none
def ic(W:Nat->Code->AC->Prop)(η:Env)(o:O)(L:Loc)(x:Option Obj):Prop:=
 match o with
 | .c l e fz=>∃cs fr,x=some (.cells cs e fr)/\L.off+L.room=cs.size/\l.length<=L.room/\(∀(i:Nat) (v:V),l[i]?=some v->∃y,cs[L.off+i]?=some y/\aC η v y)/\(fr.2=fr.1\/fr.2<=L.off+fz)
 | .r l=>∃cs e fr,x=some (.cells cs e fr)/\∀(i:Nat) (v:V),l[i]?=some v->∃y,cs[L.off+i]?=some y/\aC η v y
 | .b p q e=>L.off=0/\∃u v,x=some (.cells #[u,v] e (0,0))/\aC η p u/\aC η q v
 | .mp es c=>∃gL,x=some (.map gL c)/\eP η es gL.toList
 | .it l n pos=>L.off=0/\x=some (.stringIter (strOf l n) pos)/\n<256 ^ l
 | .mi b since=>L.off=0/\∃Lb,η b=some Lb/\x=some (.mapIter (some Lb.blk) since #[] since)
 | .me m c t=>L.off=0/\∃Lm since seen,η m=some Lm/\x=some (.mapIter (some Lm.blk) since seen c)/\seen.back?=some t
 | .lp ready gQ T ps as body=>∃r,x=some (.loop r)/\(r.state=if ready then .ready else if gQ.jF then .busy else .done)/\r.pending=mO gQ/\br η T r.tmps/\ps=r.params.toList.map cT/\oG r.tmps.size r.params.toList=true/\W r.tmps.size r.assign as/\W r.tmps.size r.body body
theorem eP.mono{η η':Env}(hη:η.le η'):∀{l:List (V×V×Nat)} {l':List MapEntry},eP η l l'->eP η' l l'
 | [],[],_=>trivial
 | (_,_,_)::_,_::_,⟨a,b,c,d⟩=>⟨a.mono hη,b.mono hη,c,eP.mono hη d⟩
theorem br.mono{η η':Env}(hη:η.le η'){T:Tr V}{t:Array Value}(h:br η T t):br η' T t:=
 λk v hv=>let⟨x,h1,h2⟩:=h k v hv;⟨x,h1,h2.mono hη⟩
theorem ic.mono{W:Nat->Code->AC->Prop}{η η':Env}(hη:η.le η'){o:O}{L:Loc}{x:Option Obj}(h:ic W η o L x):ic W η' o L x:=by
 cases o with
 | c l e fz=>
  obtain⟨cs,fr,h1,h2,h3,h4,h5⟩:=h;exact⟨cs,fr,h1,h2,h3,λi v hi=>let⟨y,a,b⟩:=h4 i v hi;⟨y,a,b.mono hη⟩,h5⟩
 | r l=>
  obtain⟨cs,e,fr,h1,h4⟩:=h;exact⟨cs,e,fr,h1,λi v hi=>let⟨y,a,b⟩:=h4 i v hi;⟨y,a,b.mono hη⟩⟩
 | b p q e=>obtain⟨h0,u,v,h1,h2,h3⟩:=h;exact⟨h0,u,v,h1,h2.mono hη,h3.mono hη⟩
 | mp es c=>obtain⟨gL,h1,h2⟩:=h;exact⟨gL,h1,h2.mono hη⟩
 | it l n pos=>exact h
 | mi b since=>obtain⟨h0,Lb,h1,h2⟩:=h;exact⟨h0,Lb,hη _ _ h1,h2⟩
 | me m c t=>obtain⟨h0,Lm,since,seen,h1,h2,h3⟩:=h;exact⟨h0,Lm,since,seen,hη _ _ h1,h2,h3⟩
 | lp ready gQ T ps as body=>obtain⟨r,h1,h2,h3,h4,h5⟩:=h;exact⟨r,h1,h2,h3,h4.mono hη,h5⟩
structure bM(W:Nat->Code->AC->Prop)(η:Env)(H:Hp)(n:K)(w:World):Prop where
 obj:∀k o,H.get k=some o->∃L,η k=some L/\L.blk<w.heap.size/\ic W η o L w.heap[L.blk]?
 sep:∀k k' o o' L L',k≠k'->H.get k=some o->o.mut=true->H.get k'=some o'->η k=some L->η k'=some L'->L.blk≠L'.blk
 free:∀k,n.num<=k.num->η k=none
def nt(η:Env)(H:Hp)(m:Bool)(b:Nat):Prop:=∃k o L,H.get k=some o/\(m=true->o.mut=true)/\η k=some L/\L.blk=b
structure Kept(F:Nat->Prop)(w w':World):Prop where
 os:w'.os=w.os
 tape:w'.tape=w.tape
 output:w'.output=w.output
 size:w.heap.size<=w'.heap.size
 block:∀b,b<w.heap.size->¬ F b->w'.heap[b]?=w.heap[b]?
 loops:∀(b:Nat) (r:Go.Loop),w.heap[b]?=some (.loop r)->∃r',w'.heap[b]?=some (.loop r')
structure Trans(W:Nat->Code->AC->Prop)(η:Env)(H:Hp)(n:K)(w:World)(η':Env)(H':Hp)(n':K)(w':World):Prop where
 ext:η.le η'
 le:n.num<=n'.num
 rep:bM W η' H' n' w'
 kept:Kept (nt η H true) w w'
 lF:∀m b,nt η' H' m b->nt η H m b\/w.heap.size<=b
 ef:∀k,k.num<n.num->η' k=η k
theorem Kept.refl(F:Nat->Prop)(w:World):Kept F w w:=⟨rfl,rfl,rfl,Γ _,λ_ _ _=>rfl,λ_ r h=>⟨r,h⟩⟩
section trans
variable {W:Nat->Code->AC->Prop}{η η' PL:Env}{H H' qu:Hp}{n n' oe:K}{w w' xf:World}
theorem Trans.refl(h:bM W η H n w):Trans W η H n w η H n w:=⟨.refl _,Γ _,h,.refl _ _,λ_ _ h=>.inl h,λ_ _=>rfl⟩
theorem Trans.trans(h:Trans W η H n w η' H' n' w')(k:Trans W η' H' n' w' PL qu oe xf):Trans W η H n w PL qu oe xf where
 ext:=h.ext.trans k.ext
 le:=gY h.le k.le
 rep:=k.rep
 kept:=
  {os:=k.kept.os.trans h.kept.os
   tape:=k.kept.tape.trans h.kept.tape
   output:=k.kept.output.trans h.kept.output
   size:=gY h.kept.size k.kept.size
   block:=λb hb hF=>by
    rw[k.kept.block b (fN hb h.kept.size) λKl=>?_,h.kept.block b hb hF];rcases h.lF _ _ Kl with h1 | h1
    ·exact hF h1
    ·omega
   loops:=λb r hb=>let⟨r',h1⟩:=h.kept.loops b r hb;k.kept.loops b r' h1}
 lF:=λm b hb=>by
  rcases k.lF m b hb with h1 | h1
  ·exact h.lF m b h1
  ·exact .inr (gY h.kept.size h1)
 ef:=λq hq=>by rw[k.ef q (fN hq h.le),h.ef q hq]
theorem bM.drawn(h:bM W η H n w)(d:Nat):bM W η H n { w with drawn:=d}:=⟨h.obj,h.sep,h.free⟩
theorem Trans.drawn(h:Trans W η H n w η' H' n' w')(d:Nat):Trans W η H n w η' H' n' { w' with drawn:=d}:=
 ⟨h.ext,h.le,h.rep.drawn d,⟨h.kept.os,h.kept.tape,h.kept.output,h.kept.size,h.kept.block,h.kept.loops⟩,h.lF,h.ef⟩
theorem bM.less(h:bM W η H n w)(hs:∀k o,H'.get k=some o->H.get k=some o):bM W η H' n w:=
 ⟨λk o hk=>h.obj k o (hs k o hk),λk k' o o' L L' bC hk hm gD=>h.sep k k' o o' L L' bC (hs _ _ hk) hm (hs _ _ gD),h.free⟩
theorem bM.zL(h:bM W η H n w){k:K}{o:O}(hk:H.get k=some o):k.num<n.num:=by
 rcases jR k.num n.num with h1 | h1
 ·exact h1
 ·obtain⟨L,hL,_⟩:=h.obj k o hk;rw[h.free k h1]at hL;cases hL
theorem Trans.new(h:bM W η H n w){o:O}{ob:Obj}{room:Nat}(ho:∀η',η.le η'->ic W η' o ⟨w.heap.size,0,room⟩ (some ob)):
 ∃η',Trans W η H n w η' (H.put (some o) n) n.succ { w with heap:=w.heap.push ob}/\η' n=some ⟨w.heap.size,0,room⟩:=by
 have hn:η n=none:=h.free n (Γ _);let η':Env:=λk=>if k=n then some ⟨w.heap.size,0,room⟩ else η k
 have hle:η.le η':=λk L hk=>by
  show(if k=n then _ else η k)=_
  rw[ai (λe=>by rw[e,hn]at hk;cases hk)];exact hk
 have oJ:η' n=some ⟨w.heap.size,0,room⟩:=az rfl;have hold:∀k,k≠n->η' k=η k:=λk hk=>ai hk;refine⟨η',⟨hle,by rw[K.fH];omega,⟨?_,?_,?_⟩,⟨rfl,rfl,rfl,by simp,λb hb _=>by simp[Br];omega,λb r hb=>⟨r,by
  have ψ:=(oC.1 hb).1;show(w.heap.push ob)[b]?=_;rw[Br,ai (by omega)];exact hb⟩⟩,?_,λk hk=>hold k λe=>by rw[e]at hk;omega⟩,oJ⟩
 ·intro k o' hk;rw[Tr.gb]at hk;by_cases sQ:k=n
  ·rw[az sQ]at hk;injection hk with hk;subst hk;subst sQ;exact⟨_,oJ,by simp,by simpa using ho η' hle⟩
  ·rw[ai sQ]at hk;obtain⟨L,h1,h2,h3⟩:=h.obj k o' hk;refine⟨L,by rw[hold k sQ];exact h1,by simp;omega,?_⟩;have:(w.heap.push ob)[L.blk]?=w.heap[L.blk]?:=by rw[Br,ai (by omega)]
   rw[this];exact h3.mono hle
 ·intro k k' o1 o2 L1 L2 bC hk hm gD hL jm;rw[Tr.gb]at hk gD;by_cases sQ:k=n
  ·have BG:k'≠n:=λe=>bC (sQ.trans e.symm);rw[ai BG]at gD;obtain⟨L,h1,h2,_⟩:=h.obj k' o2 gD;rw[hold k' BG,h1]at jm;injection jm with jm;rw[sQ,oJ]at hL;injection hL with hL;rw[←hL,←jm];simp;omega
  ·rw[ai sQ]at hk;obtain⟨L,h1,h2,_⟩:=h.obj k o1 hk;rw[hold k sQ,h1]at hL;injection hL with hL;by_cases BG:k'=n
   ·rw[BG,oJ]at jm;injection jm with jm;rw[←hL,←jm];simp;omega
   ·rw[ai BG]at gD;rw[hold k' BG]at jm;rw[←hL];exact h.sep k k' o1 o2 L L2 bC hk hm gD h1 jm
 ·intro k hk;rw[K.fH]at hk;have:k≠n:=λe=>by rw[e]at hk;omega
  rw[hold k this];exact h.free k (by omega)
 ·rintro m b ⟨k,o',L,hk,hm,hL,hb⟩;rw[Tr.gb]at hk;by_cases sQ:k=n
  ·rw[sQ,oJ]at hL;injection hL with hL;right;rw[←hb,←hL];exact Γ _
  ·rw[ai sQ]at hk;rw[hold k sQ]at hL;exact .inl ⟨k,o',L,hk,hm,hL,hb⟩
def O.DH:O->Bool
 | .lp _ _ _ _ _ _=>true
 | _=>false
theorem Z7(h:bM W η H n w){k:K}{o o':O}{L:Loc}{ob:Obj}(hk:H.get k=some o)(hL:η k=some L)(ho:ic W η o' L (some ob))(hl:o.DH=o'.DH)
 (b:Nat)(r:Go.Loop)(hb:w.heap[b]?=some (.loop r)):∃r',(w.heap.setIfInBounds L.blk ob)[b]?=some (.loop r'):=by
 rw[gO];by_cases e:L.blk=b
 ·obtain⟨L0,og,ψ,hr⟩:=h.obj k o hk;rw[hL]at og;injection og with og;subst og;rw[az e,az ψ];rw[e,hb]at hr;cases o with
  | lp _ _ _ _ _ _=>
   cases o' with
   | lp _ _ _ _ _ _=>obtain⟨r',h1,_⟩:=ho;exact⟨r',h1⟩
   | _=>cases hl
  | c _ _ _=>obtain⟨_,_,h1,_⟩:=hr;cases h1
  | r _=>obtain⟨_,_,_,h1,_⟩:=hr;cases h1
  | mp _ _=>obtain⟨_,h1,_⟩:=hr;cases h1
  | mi _ _=>obtain⟨_,_,_,h1⟩:=hr;cases h1
  | me _ _ _=>obtain⟨_,_,_,_,_,h1,_⟩:=hr;cases h1
  | it _ _ _=>obtain⟨_,h1,_⟩:=hr;cases h1
  | b _ _ _=>obtain⟨_,_,_,h1,_⟩:=hr;cases h1
 ·rw[ai e];exact⟨r,hb⟩
theorem Trans.write(h:bM W η H n w){k:K}{o o':O}{L:Loc}{ob:Obj}(hk:H.get k=some o)(hm:o.mut=true)(hL:η k=some L)
 (ho:ic W η o' L (some ob)){w':World}(hw:w'={ w with heap:=w.heap.setIfInBounds L.blk ob})(hl:o.DH=o'.DH:=by rfl):
 Trans W η H n w η (H.put (some o') k) n w':=by
 subst hw;obtain⟨L0,og,ψ,_⟩:=h.obj k o hk;rw[hL]at og;injection og with og;subst og;refine⟨.refl _,Γ _,⟨?_,?_,h.free⟩,⟨rfl,rfl,rfl,by simp,λb hb hF=>?_,Z7 h hk hL ho hl⟩,?_,λ_ _=>rfl⟩
 ·intro k' o1 gD;rw[Tr.gb]at gD;by_cases e:k'=k
  ·rw[az e]at gD;injection gD with gD;subst gD;subst e;exact⟨L,hL,by simpa using ψ,by simpa[gO,ψ]using ho⟩
  ·rw[ai e]at gD;obtain⟨L1,h1,h2,h3⟩:=h.obj k' o1 gD;refine⟨L1,h1,by simpa using h2,?_⟩;have bC:=h.sep k k' o o1 L L1 (λe'=>e e'.symm) hk hm gD hL h1;rw[gO,ai bC];exact h3
 ·intro k1 k2 o1 o2 L1 L2 bC h1 tY h2 sh vW;rw[Tr.gb]at h1 h2;by_cases e1:k1=k
  ·have e2:k2≠k:=λe=>bC (e1.trans e.symm);rw[ai e2]at h2;rw[e1]at sh;exact h.sep k k2 o o2 L1 L2 (λe=>e2 e.symm) hk hm h2 sh vW
  ·rw[ai e1]at h1;by_cases e2:k2=k
   ·rw[e2]at vW;exact h.sep k1 k o1 o L1 L2 e1 h1 tY hk sh vW
   ·rw[ai e2]at h2;exact h.sep k1 k2 o1 o2 L1 L2 bC h1 tY h2 sh vW
 ·rw[gO,ai];intro e;exact hF ⟨k,o,L,hk,λ_=>hm,hL,e⟩
 ·rintro m b ⟨k',o1,L1,gD,tY,sh,hb⟩;rw[Tr.gb]at gD;by_cases e:k'=k
  ·rw[e,hL]at sh;injection sh with sh;exact .inl ⟨k,o,L,hk,λ_=>hm,hL,by rw[sh];exact hb⟩
  ·rw[ai e]at gD;exact .inl ⟨k',o1,L1,gD,tY,sh,hb⟩
end trans
end
section
def mP(c:Array Value)(o:Nat):List Value->Array Value
 | []=>c
 | v::l=>mP (c.setIfInBounds o v) (o+1) l
theorem GW(c:Array Value)(o:Nat)(l:List Value):(mP c o l).size=c.size:=by
 induction l generalizing c o with
 | nil=>rfl
 | cons v l ih=>simp[mP,ih]
theorem GX(c:Array Value)(o:Nat)(l:List Value)(h:o+l.length<=c.size)(j:Nat):
 (mP c o l)[j]?=if o<=j/\j<o+l.length then l[j - o]? else c[j]?:=by
 induction l generalizing c o with
 | nil=>simp only[mP,pG];rw[ai (by omega)]
 | cons v l ih=>
  simp only[fG]at h;simp only[mP];rw[ih _ _ (by simp;omega)];by_cases h1:o+1<=j/\j<o+1+l.length
  ·rw[az h1,az (by simp;omega)];have:j - o=(j - (o+1))+1:=by omega
   rw[this];simp
  ·rw[ai h1,gO];by_cases h2:o=j
   ·subst h2;rw[az rfl,az (by omega),az (by simp)];simp
   ·rw[ai h2,ai (by simp only[fG];omega)]
theorem GY{w:World}{b o:Nat}{c:Array Value}{e:TypeId}{fr:Nat×Nat}(h:w.heap[b]?=some (.cells c e fr)):
 w.cell? ⟨b,o,none⟩=c[o]?:=by simp[World.cell?,h]
theorem Z8{w:World}{b o:Nat}{c:Array Value}{e:TypeId}{fr:Nat×Nat}(h:w.heap[b]?=some (.cells c e fr)):
 w.frozen? ⟨b,o,none⟩=(decide (fr.1<=o)&&decide (o<fr.2)):=by
 obtain⟨lo,hi⟩:=fr;simp[World.frozen?,h]
theorem Z9{w:World}{b o:Nat}{c:Array Value}{e:TypeId}{fr:Nat×Nat}(h:w.heap[b]?=some (.cells c e fr))(v:Value):
 w.setCell ⟨b,o,none⟩ v={ w with heap:=w.heap.setIfInBounds b (.cells (c.setIfInBounds o v) e fr)}:=by
 have hb:b<w.heap.size:=by
  rcases jR b w.heap.size with h1 | h1
  ·exact h1
  ·rw[Array.getElem?_eq_none h1]at h;cases h
 have hg:w.heap[b]=.cells c e fr:=by rw[nI hb]at h;injection h
 simp only[World.setCell];congr 1;apply Array.ext_getElem?;intro i;rw[Array.getElem?_modify,gO];by_cases hi:b=i
 ·subst hi;simp[hb,hg]
 ·rw[ai hi,ai hi]
theorem sT(b o n:Nat):(⟨b,o,none⟩:Addr).add n=⟨b,o+n,none⟩:=by
 unfold Addr.add;split
 ·rename_i h;simp[h]
 ·rfl
section aaa
variable {P:Program}{w:World}
theorem aab{b o:Nat}{c:Array Value}{e:TypeId}{fr:Nat×Nat}(h:w.heap[b]?=some (.cells c e fr))(n i:Nat)(acc:Array Value)
 (hn:o+i+n<=c.size):bA P (loadCellsFrom ⟨b,o,none⟩ i n acc) w λr w'=>r=acc++((c.toList.drop (o+i)).take n).toArray/\w'=w:=by
 induction n generalizing i acc with
 | zero=>exact an ⟨by simp,rfl⟩
 | succ n ih=>
  have ψ:o+i<c.size:=by omega
  refine Δ ?_;rw[sT];refine Kj (v:=c[o+i]) (by rw[GY h,nI ψ]) ?_;refine(ih (i+1) (acc.push c[o+i]) (by omega)).mono ?_;rintro r w' ⟨rfl,rfl⟩;refine⟨?_,rfl⟩;have hd:c.toList.drop (o+i)=c[o+i]::c.toList.drop (o+i+1):=by rw[gi (by simpa using ψ)];simp
  rw[hd,sG];apply j9;simp[mM]
theorem PM{b o:Nat}{c:Array Value}{e:TypeId}{fr:Nat×Nat}(h:w.heap[b]?=some (.cells c e fr))(n:Nat)
 (hn:o+n<=c.size):bA P (loadCells ⟨b,o,none⟩ n) w λr w'=>r=((c.toList.drop o).take n).toArray/\w'=w:=
 (aab h n 0 #[] (by omega)).mono λr w' ⟨h1,h2⟩=>⟨by simpa using h1,h2⟩
theorem Km{b o:Nat}{c:Array Value}{e:TypeId}{fr:Nat×Nat}(vs:List Value)(i:Nat)(h:w.heap[b]?=some (.cells c e fr))
 (hn:o+i+vs.length<=c.size)(hf:fr.2<=fr.1\/fr.2<=o+i)(h1:∀v∈vs,v.sP=true):
 bA P (storeCells ⟨b,o,none⟩ vs i) w λ_ w'=>w'={ w with heap:=w.heap.setIfInBounds b (.cells (mP c (o+i) vs) e fr)}:=by
 induction vs generalizing i c w with
 | nil=>
  refine an ?_;have:w.heap.setIfInBounds b (.cells c e fr)=w.heap:=by
   apply Array.ext_getElem?;intro j;rw[gO];by_cases hj:b=j
   ·subst hj;rw[az rfl];split
    ·exact h.symm
    ·rename_i hx;rw[Array.getElem?_eq_none (by omega)]at h;cases h
   ·rw[ai hj]
  simp only[mP,this]
 | cons v vs ih=>
  simp only[fG]at hn;have ψ:o+i<c.size:=by omega
  have hb:b<w.heap.size:=by
   rcases jR b w.heap.size with h2 | h2
   ·exact h2
   ·rw[Array.getElem?_eq_none h2]at h;cases h
  refine Δ ?_;rw[sT];refine Z6 (h1 v (by simp)) (v0:=c[o+i]) (by rw[GY h,nI ψ]) ?_ ?_
  ·rw[Z8 h];simp;omega
  ·rw[Z9 h];refine(ih (w:={ w with heap:=w.heap.setIfInBounds b (.cells (c.setIfInBounds (o+i) v) e fr)}) (c:=c.setIfInBounds (o+i) v) (i+1)
    (by simp[gO,hb]) (by simp;omega) (by omega) (λx hx=>h1 x (by simp[hx]))).mono ?_
   rintro _ w' rfl;simp[mP,mM]
end aaa
structure vX(P:Program)(t:TypeId)(i:TI):Prop where
 desc:Kk P t i.desc
 info:∃ti z,P.info? t=some ti/\ti.size=i.size/\ti.bytes=i.bytes/\ti.zero=some z/\xH z.cells.toList=some i.zero/\(i.desc.agg=true->∃l,z=.agg l)/\(i.desc.agg=false->z.sP=true)/\i.zero.length=i.size/\bN i.zero=true
 other:i.desc=.other->∃d,P.underlying t=some d/\(∀fs,d≠.struct fs)/\(∀n e,d≠.array n e)
structure dO(P:Program)(ty:Ty):Prop where
 ok:∀t i,ty t=some i->vX P t i
 bsz:(P.info? ty.b).map (·.size)=some 2
 aad:liesAt P P.depth ty.b (2 / P.cellsOf ty.b) 0 ty.b 1=true
section types
variable {P:Program}{w:World}
theorem bS{t:TypeId}{d:TypeDesc}{Φ:TypeDesc->World->Prop}(h:P.underlying t=some d)(k:Φ d w):bA P (underlying t) w Φ:=by refine Δ (DF ?_);simp only[h];exact an k
theorem xQ{t:TypeId}{i:TypeInfo}{Φ:TypeInfo->World->Prop}(h:P.info? t=some i)(k:Φ i w):bA P (typeInfo t) w Φ:=by refine Δ (DF ?_);simp only[h];exact an k
theorem mQ{t:TypeId}{i:TI}{Φ:Nat->World->Prop}(h:vX P t i)(k:Φ i.size w):bA P (sizeOf t) w Φ:=by obtain⟨ti,z,h1,h2,_⟩:=h.info;exact Δ (xQ h1 (an (h2▸k)))
theorem PN{t:TypeId}{i:TI}{Φ:Bool->World->Prop}(h:vX P t i)(k:Φ i.desc.agg w):bA P (isAgg t) w Φ:=by
 have hd:=h.desc;have ho:=h.other;obtain⟨d,sz,by_,zr⟩:=i;cases d with
 | rF fs plain=>obtain⟨l,h1,_⟩:=hd;exact Δ (bS h1 (an k))
 | arr n e=>exact Δ (bS hd (an k))
 | other=>
  obtain⟨d,h1,h2,h3⟩:=ho rfl;refine Δ (bS h1 ?_);cases d<;>first | exact absurd rfl (h2 _) | exact absurd rfl (h3 _ _) | exact an k
 | func=>obtain⟨_,_,_,h1⟩:=hd;exact Δ (bS h1 (an k))
 | iface=>obtain⟨_,h1⟩:=hd;exact Δ (bS h1 (an k))
 | bool=>exact Δ (bS hd (an k))
 | int _=>exact Δ (bS hd (an k))
 | str=>exact Δ (bS hd (an k))
 | ptr _=>exact Δ (bS hd (an k))
 | BE=>exact Δ (bS hd (an k))
 | slice _=>exact Δ (bS hd (an k))
 | map _ _=>exact Δ (bS hd (an k))
mutual
theorem Kn (η:Env):∀{x:Value} {v:V},gR x=some v->aC η v x
 | .bool b,v,h=>by simp only[gR]at h;injection h with h;subst h;exact .b _
 | .int k n,v,h=>by simp only[gR]at h;injection h with h;subst h;exact .i _ _
 | .string s,v,h=>by simp only[gR]at h;injection h with h;subst h;have h1:=Z4 s.data.toList;have h2:=PI s;have:aC η (.s s.size (bR s.data.toList)) (.string (strOf s.size (bR s.data.toList))):=.s _ _ (by simpa using h1);rw[h2]at this;exact this
 | .pointer none,v,h=>by simp only[gR]at h;injection h with h;subst h;exact .np
 | .slice none 0 0,v,h=>by simp only[gR]at h;injection h with h;subst h;exact .ns
 | .map none,v,h=>by simp only[gR]at h;injection h with h;subst h;exact .nm
 | .func (.func f) ⟨[]⟩ ⟨[]⟩,v,h=>by simp only[gR]at h;injection h with h;subst h;exact .f _ _ _ _ _ .nil .nil
 | .nilFunc,v,h=>by simp only[gR]at h;injection h with h;subst h;exact .nf
 | .nilIface,v,h=>by simp only[gR]at h;injection h with h;subst h;exact .ni
 | .iface t x,v,h=>by
  simp only[gR]at h;split at h
  ·rename_i v' hv;injection h with h;subst h;exact .lD _ _ _ (Kn η hv)
  ·cases h
 | .agg ⟨l⟩,v,h=>by
  simp only[gR]at h;split at h
  ·rename_i v' hv;injection h with h;subst h;exact .a _ _ (vY η hv)
  ·cases h
 | .tuple ⟨l⟩,v,h=>by
  simp only[gR]at h;split at h
  ·rename_i v' hv;injection h with h;subst h;exact .u _ _ (vY η hv)
  ·cases h
 | .float ..,_,h=>by simp[gR]at h
 | .complex ..,_,h=>by simp[gR]at h
 | .pointer (some _),_,h=>by simp[gR]at h
 | .slice (some _) _ _,_,h=>by simp[gR]at h
 | .slice none (_+1) _,_,h=>by simp[gR]at h
 | .slice none 0 (_+1),_,h=>by simp[gR]at h
 | .map (some _),_,h=>by simp[gR]at h
 | .chan _,_,h=>by simp[gR]at h
 | .func (.method _) _ _,_,h=>by simp[gR]at h
 | .func (.methodOf _ _) _ _,_,h=>by simp[gR]at h
 | .func (.via _ _ _ _) _ _,_,h=>by simp[gR]at h
 | .func (.yield _) _ _,_,h=>by simp[gR]at h
 | .func (.func _) ⟨_::_⟩ _,_,h=>by simp[gR]at h
 | .func (.func _) ⟨[]⟩ ⟨_::_⟩,_,h=>by simp[gR]at h
theorem vY (η:Env):∀{x:List Value} {v:List V},xH x=some v->bB η v x
 | [],v,h=>by simp only[xH]at h;injection h with h;subst h;exact .nil
 | x::l,v,h=>by
  simp only[xH]at h;split at h
  ·rename_i v1 l1 hv hl;injection h with h;subst h;exact .cons _ _ _ _ (Kn η hv) (vY η hl)
  ·cases h
end
theorem sU{t:TypeId}{i:TI}{Φ:Value->World->Prop}(h:vX P t i)
 (k:∀z,(∀η,bB η i.zero z.cells.toList)->(∀η,aC η i.zeroV z)->(∀y∈z.cells.toList,y.sP=true)->z.cells.size=i.size->Φ z w):bA P (zeroValue t) w Φ:=by
 obtain⟨ti,z,h1,h2,h3,h4,h5,h6,h7,h8,h9⟩:=h.info;refine Δ (xQ h1 ?_);simp only[h4];refine an (k z (λη=>vY η h5) (λη=>?_) ?_ ?_)
 ·unfold TI.zeroV;cases ha:i.desc.agg with
  | true=>
   obtain⟨l,rfl⟩:=h6 ha;obtain⟨l⟩:=l;exact .a _ _ (vY η h5)
  | false=>
   have hz:=h7 ha;have hc:z.cells=#[z]:=by cases z<;>first | rfl | (simp[Value.sP]at hz)
   have Jn:=vY η h5;rw[hc]at Jn;generalize i.zero=zs at Jn;cases Jn with
   | cons v v' l l' a b=>cases b;exact a
 ·exact(vY (λ_=>none) h5).one h9
 ·rw[←h8,(vY (λ_=>none) h5).length];simp
end types
end
section
def ax(tmps:Array Value):Operand->Value
 | .tmp t=>tmps.getD t undef
 | .const v=>v
 | .global g=>.pointer (some ⟨g,0,none⟩)
 | .func f=>.func (.func f) #[] #[]
def cM(η:Env)(G:Nat):Prop:=∀g,g<G->∃L,η (cT g)=some L/\L.blk=g/\L.off=0
theorem cM.mono{η η':Env}{G:Nat}(h:cM η G)(hη:η.le η'):cM η' G:=λg hg=>let⟨L,a,b⟩:=h g hg;⟨L,hη _ _ a,b⟩
def fL(P:Program)(W:Nat->Code->AC->Prop)(η:Env)(H:Hp)(n:K)(w:World)(s:Sem Next)(v:V)(H':Hp)(n':K):Prop:=
 bA P s w λx w'=>∃η',Trans W η H n w η' H' n' w'/\((∃y,x=.value y/\aC η' v y)\/(x=.skip/\v=.u []))
section ops
variable {P:Program}{ty:Ty}{W:Nat->Code->AC->Prop}{η:Env}{T:Tr V}{H H':Hp}{n n':K}{w:World}{tmps:Array Value}{v:V}
theorem cS(hT:br η T tmps)(hG:cM η ty.g){x:Operand}{a:aJ}{v:V}(h:cr ty x=some a)(hv:aI T a=some v):aC η v (ax tmps x):=by
 cases x with
 | tmp t=>
  simp only[cr]at h;injection h with h;subst h;obtain⟨y,h1,h2⟩:=hT t v hv;show aC η v (tmps.getD t undef);rw[xp,h1];exact h2
 | const c=>
  simp only[cr]at h;split at h
  ·rename_i v' oh;injection h with h;subst h;simp only[aI]at hv;injection hv with hv;subst hv;exact Kn η oh
  ·cases h
 | global g=>
  simp only[cr]at h;cases hb:Nat.blt g ty.g with
  | false=>rw[hb]at h;cases h
  | true=>
   rw[hb]at h;injection h with h;subst h;simp only[aI]at hv;injection hv with hv;subst hv;obtain⟨L,h1,h2,h3⟩:=hG g (by have:g+1<=ty.g:=nJ hb;omega);have:=aC.p (η:=η) (cT g) 0 L h1;rw[h2,h3]at this;exact this
 | func f=>
  simp only[cr]at h;injection h with h;subst h;simp only[aI]at hv;injection hv with hv;subst hv;exact .f _ _ _ _ _ .nil .nil
theorem BH(hT:br η T tmps)(hG:cM η ty.g){l:List Operand}{as:List aJ}{vs:List V}(h:pK ty l=some as)(hv:fP T as=some vs):
 bB η vs (l.map (ax tmps)):=by
 induction l generalizing as vs with
 | nil=>
  simp only[pK]at h;injection h with h;subst h;simp only[fP]at hv;injection hv with hv;subst hv;exact .nil
 | cons x l ih=>
  simp only[pK]at h;split at h
  ·rename_i a FT ha has;injection h with h;subst h;simp only[fP]at hv;split at hv
   ·rename_i v' DI oh FU;injection hv with hv;subst hv;exact .cons _ _ _ _ (cS hT hG ha oh) (ih has FU)
   ·cases hv
  ·cases h
theorem lG{x:Option V}(h:eg H n x=some (v,H',n')):x=some v/\H'=H/\n'=n:=by
 cases x with
 | none=>cases h
 | some y=>simp only[eg]at h;injection h with h;injection h with h1 h2;injection h2 with h2 h3;exact⟨by rw[h1],h2.symm,h3.symm⟩
theorem gM{s:Sem Value}(h:bA P s w λy w'=>∃η',Trans W η H n w η' H' n' w'/\aC η' v y):fL P W η H n w (do pure (.value (←s))) v H' n':=
 Δ (h.mono λy _ ⟨η',a,b⟩=>an ⟨η',a,.inl ⟨y,rfl,b⟩⟩)
theorem oku{s:Sem Unit}(h:bA P s w λ_ w'=>∃η',Trans W η H n w η' H' n' w'):fL P W η H n w (do s;pure .skip) (.u []) H' n':=
 Δ (h.mono λ_ _ ⟨η',a⟩=>an ⟨η',a,.inr ⟨rfl,rfl⟩⟩)
theorem Om{y:Value}(hH:bM W η H n w)(h:aC η v y):fL P W η H n w (pure (.value y)) v H n:=
 an ⟨η,.refl hH,.inl ⟨y,rfl,h⟩⟩
theorem PO(hH:bM W η H n w){b:K}{l:List V}(h:rowAt H b=some l):
 ∃L cs e fr,η b=some L/\w.heap[L.blk]?=some (.cells cs e fr)/\∀(i:Nat) (v:V),l[i]?=some v->∃y,cs[L.off+i]?=some y/\aC η v y:=by
 unfold rowAt at h;split at h
 ·rename_i o ho;obtain⟨L,h1,h2,h3⟩:=hH.obj b o ho;cases o<;>first | (simp[O.row]at h;done) | skip
  ·simp only[O.row]at h;injection h with h;subst h;obtain⟨cs,fr,a,_,_,d,_⟩:=h3;exact⟨L,cs,_,fr,h1,a,d⟩
  ·simp only[O.row]at h;injection h with h;subst h;obtain⟨cs,e,fr,a,d⟩:=h3;exact⟨L,cs,e,fr,h1,a,d⟩
  ·simp only[O.row]at h;injection h with h;subst h;obtain⟨h0,u,q,a,d1,d2⟩:=h3;refine⟨L,#[u,q],_,_,h1,a,λi v hi=>?_⟩;rw[h0,hY];rcases i with _ | _ | i
   ·simp at hi;subst hi;exact⟨u,rfl,d1⟩
   ·simp at hi;subst hi;exact⟨q,rfl,d2⟩
   ·simp at hi
 ·cases h
theorem Ko(hH:bM W η H n w){b:K}{l r:List V}{o z:Nat}(h:rowAt H b=some l)(hr:dt l o z=some r):
 ∃L cs e fr,η b=some L/\w.heap[L.blk]?=some (.cells cs e fr)/\(z=0\/L.off+o+z<=cs.size)/\bB η r ((cs.toList.drop (L.off+o)).take z):=by
 obtain⟨L,cs,e,fr,h1,h2,h3⟩:=PO hH h;obtain⟨rfl,hn⟩:=oI hr;have eQ:z=0\/L.off+o+z<=cs.size:=by
  cases z with
  | zero=>exact .inl U
  | succ z=>
   right;obtain⟨y,hy,_⟩:=h3 (o+z) l[o+z] (by rw[gP (by omega)]);have:=(oC.1 hy).1;omega
 refine⟨L,cs,e,fr,h1,h2,eQ,?_⟩;refine bB.GV ?_ λi v hi=>?_
 ·rw[qn,qn,sK,sK];rcases eQ with rfl | eQ
  ·simp
  ·simp;omega
 ·rw[List.getElem?_take]at hi ⊢;split at hi
  ·rename_i ψ;rw[az ψ];rw[Bs]at hi ⊢;obtain⟨y,hy,hv⟩:=h3 _ _ hi;refine⟨y,?_,hv⟩;rw[nK];rw[show L.off+o+i=L.off+(o+i) by omega];exact hy
  ·cases hi
theorem PQ{t:TypeId}{i:TI}(hi:vX P t i)(hH:bM W η H n w){a:V}{A:Addr}(ha:aC η a (.pointer (some A)))(h:vF H i.desc.agg i.size a=some v):
 bA P (loadVar t A) w λy w'=>aC η v y/\w'=w:=by
 unfold vF at h;split at h
 ·rename_i b o;split at h
  ·rename_i l hl;cases ha with
   | p b o L hL=>
    refine Δ (PN hi ?_);cases hg:i.desc.agg with
    | true=>
     rw[hg]at h;simp only[cond_true]at h;split at h
     ·rename_i r hr;injection h with h;subst h;obtain⟨L',cs,e,fr,h1,h2,h3,h4⟩:=Ko hH hl hr;rw[hL]at h1;injection h1 with h1;subst h1;simp only[if_true];refine Δ (mQ hi ?_);refine Δ ?_;rcases h3 with h3 | h3
      ·rw[h3];exact an (an ⟨by rw[h3]at h4;simpa using aC.a _ _ h4,rfl⟩)
      ·refine(PM h2 i.size h3).mono ?_;rintro r' w' ⟨rfl,rfl⟩;exact an ⟨.a _ _ h4,rfl⟩
     ·cases h
    | false=>
     rw[hg]at h;simp only[cond_false]at h;rw[pL]at h;obtain⟨L',cs,e,fr,h1,h2,h3⟩:=PO hH hl;rw[hL]at h1;injection h1 with h1;subst h1;obtain⟨y,hy,hv⟩:=h3 o v h;simp only[zt,if_false];exact Kj (by rw[GY h2];exact hy) ⟨hv,rfl⟩
  ·cases h
 ·cases h
theorem aaf(aW:dO P ty)(hT:br η T tmps)(hG:cM η ty.g)(hH:bM W η H n w){t:TypeId}{x:Operand}{a:A}(hc:en ty (.load t x)=some a)
 (hs:simple a T H n=some (v,H',n')):fL P W η H n w (do pure (.value (←Instr.loadAt t (ax tmps x)))) v H' n':=by
 simp only[en]at hc;split at hc
 ·rename_i i x' hi hx;injection hc with hc;subst hc;simp only[simple]at hs;split at hs
  ·rename_i a ha;obtain⟨h1,rfl,rfl⟩:=lG hs;have hr:=cS hT hG hx ha;have hp:∃A,ax tmps x=.pointer (some A):=by
    unfold vF at h1;split at h1
    ·generalize ax tmps x=y at hr;cases hr;exact⟨_,rfl⟩
    ·cases h1
   obtain⟨A,hA⟩:=hp;rw[hA]at hr ⊢;refine gM (Δ (an ((PQ (aW.ok _ _ hi) hH hr h1).mono ?_)));rintro y w' ⟨h2,rfl⟩;exact⟨η,.refl hH,h2⟩
  ·cases hs
 ·cases hc
theorem GZ(hH:bM W η H n w){b:K}{o:Nat}{vs:List V}{xs:List Value}(hv:bB η vs xs)(h:iP H b o vs=some H'):
 ∃L,η b=some L/\bA P (storeCells ⟨L.blk,L.off+o,none⟩ xs) w λ_ w'=>Trans W η H n w η H' n w':=by
 unfold iP at h;split at h
 ·rename_i l e fz ho;cases hb:(Nat.ble fz o&&bN vs) with
  | false=>rw[hb]at h;cases h
  | true=>
   rw[hb]at h;simp only[cond_true]at h;split at h
   ·rename_i l' hl;injection h with h;subst h;rw[bG]at hb;have Kq:fz<=o:=nJ hb.1;obtain⟨L,h1,h2,cs,fr,h3,h4,h5,h6,h7⟩:=hH.obj b _ ho;obtain⟨g1,g2,g3⟩:=Kh hl;refine⟨L,h1,?_⟩;have hn:L.off+o+0+xs.length<=cs.size:=by rw[←hv.length];omega
    refine(Km xs 0 h3 hn (by omega) (hv.one hb.2)).mono ?_;rintro _ w' rfl;refine Trans.write hH ho rfl h1 ?_ rfl;refine⟨_,fr,rfl,by rw[GW];exact h4,by omega,λi v hi=>?_,h7⟩;rw[GX _ _ _ (by omega)];rw[g3]at hi;by_cases qv:o<=i/\i<o+vs.length
    ·rw[az qv]at hi;rw[az (by rw[←hv.length];omega)];have:=hv.get hi;rw[show L.off+i - (L.off+o+0)=i - o by omega];exact this
    ·rw[ai qv]at hi;rw[ai (by rw[←hv.length];omega)];exact h6 i v hi
   ·cases h
 ·rename_i x y e ho;cases hb:bN vs with
  | false=>rw[hb]at h;cases h
  | true=>
   rw[hb]at h;simp only[cond_true]at h;split at h
   ·rename_i x' y' hl;injection h with h;subst h;obtain⟨L,h1,h2,h0,u,q,h3,h4,h5⟩:=hH.obj b _ ho;obtain⟨g1,g2,g3⟩:=Kh hl;refine⟨L,h1,?_⟩;have hn:L.off+o+0+xs.length<=(#[u,q]:Array Value).size:=by
     rw[←hv.length,h0];simp at g2 ⊢;omega
    refine(Km xs 0 h3 hn (by simp) (hv.one hb)).mono ?_;rintro _ w' rfl;refine Trans.write (o':=.b x' y' e) hH ho rfl h1 ?_ rfl;have eQ:(mP #[u,q] (L.off+o+0) xs).size=2:=by rw[GW];rfl
    have get:∀(i:Nat) (v:V),[x',y'][i]?=some v->∃z,(mP #[u,q] (L.off+o+0) xs)[i]?=some z/\aC η v z:=by
     intro i v hi;rw[GX _ _ _ (by omega)];rw[g3]at hi;by_cases qv:o<=i/\i<o+vs.length
     ·rw[az qv]at hi;rw[az (by rw[←hv.length];omega)];have:=hv.get hi;rw[show i - (L.off+o+0)=i - o by omega];exact this
     ·rw[ai qv]at hi;rw[ai (by rw[←hv.length];omega)];rcases i with _ | _ | i
      ·simp at hi;subst hi;exact⟨u,rfl,h4⟩
      ·simp at hi;subst hi;exact⟨q,rfl,h5⟩
      ·simp at hi
    obtain⟨z0,e0,r0⟩:=get 0 x' rfl;obtain⟨z1,e1,r1⟩:=get 1 y' rfl;refine⟨h0,z0,z1,?_,r0,r1⟩;congr 2;generalize mP #[u,q] (L.off+o+0) xs=A at eQ e0 e1;apply Array.ext
    ·rw[eQ];rfl
    ·intro i hi1 Yw;rcases i with _ | _ | i
     ·rw[nI (by omega)]at e0;injection e0
     ·rw[nI (by omega)]at e1;injection e1
     ·simp at Yw;omega
   ·cases h
 ·cases h
theorem aag(aW:dO P ty)(hT:br η T tmps)(hG:cM η ty.g)(hH:bM W η H n w){t:TypeId}{x y:Operand}{a:A}(hc:en ty (.store t x y)=some a)
 (hs:simple a T H n=some (v,H',n')):fL P W η H n w (do Instr.storeAt t (ax tmps x) (ax tmps y);pure .skip) v H' n':=by
 simp only[en]at hc;split at hc
 ·rename_i i x' y' hi hx hy;injection hc with hc;subst hc;simp only[simple]at hs;split at hs
  ·rename_i a b ha hb;have Kr:=cS hT hG hx ha;have On:=cS hT hG hy hb;unfold CJ at hs;split at hs
   ·rename_i k o;cases hc:Nat.beq b.cells.length i.size with
    | false=>rw[hc]at hs;cases hs
    | true=>
     rw[hc]at hs;simp only[cond_true]at hs;cases dP:iP H k o b.cells with
     | none=>rw[dP]at hs;cases hs
     | some H1=>
      rw[dP]at hs;simp only[qt]at hs;injection hs with hs;injection hs with e1 e2;injection e2 with e2 e3;subst e1;subst e2;subst e3;have jo:bN b.cells=true:=by
       unfold iP at dP;split at dP
       ·cases hq:bN b.cells with
        | true=>rfl
        | false=>rw[hq,Bool.and_false]at dP;cases dP
       ·cases hq:bN b.cells with
        | true=>rfl
        | false=>rw[hq]at dP;cases dP
       ·cases dP
      obtain⟨y9,zM⟩:=On.cells jo;obtain⟨L,hL,hd⟩:=GZ (P:=P) hH y9 dP;refine oku ?_;generalize ax tmps x=p at Kr;cases Kr with
      | p _ _ L' jm=>
       rw[hL]at jm;injection jm with jm;subst jm;refine Δ (an ?_);refine Δ (mQ (aW.ok _ _ hi) ?_);have:(ax tmps y).cells.size=i.size:=by have h1:=y9.length;have h2:b.cells.length=i.size:=cZ hc;simp at h1;omega
       simp only[this,ne_eq,not_true_eq_false,if_false];refine Δ (an ?_);exact hd.mono λ_ w' h=>⟨η,h⟩
   ·cases hs
  ·cases hs
 ·cases hc
theorem aah(aW:dO P ty)(hH:bM W η H n w){t:TypeId}{a:A}(hc:en ty (.alloc t)=some a)(hs:simple a T H n=some (v,H',n')):
 fL P W η H n w (do pure (.value (←Instr.alloc t true (.tuple #[])))) v H' n':=by
 simp only[en]at hc;split at hc
 ·rename_i i hi;cases hb:Nat.beq t ty.b with
  | true=>
   rw[hb]at hc;simp only[cond_true]at hc;split at hc
   case h_2=>cases hc
   rename_i x y hz0;injection hc with hc;subst hc;simp only[simple,j4]at hs;injection hs with hs;injection hs with e1 e2;injection e2 with e2 e3;subst e1;subst e2;subst e3;refine gM ?_;refine Δ (sU (aW.ok _ _ hi) λz hz _ eF eQ=>?_);refine Δ (Δ (Δ (vV ?_)));obtain⟨η',h1,h2⟩:=Trans.new (room:=2) (o:=.b x y t) (ob:=.cells z.cells t) hH (λη' hle=>by
    have h:=hz η';rw[hz0]at h;generalize ke:z.cells=A at h;obtain⟨A⟩:=A;cases h with
    | cons _ u _ l h1 h2=>
     cases h2 with
     | cons _ q _ l h2 h3=>
      cases h3;exact⟨rfl,u,q,rfl,h1,h2⟩)
   refine an (an (an ⟨η',h1,?_⟩));have:=aC.p (η:=η') n 0 _ h2;exact this
  | false=>
  rw[hb]at hc;simp only[cond_false]at hc;injection hc with hc;subst hc;simp only[simple,j4]at hs;injection hs with hs;injection hs with e1 e2;injection e2 with e2 e3;subst e1;subst e2;subst e3;refine gM ?_;refine Δ (sU (aW.ok _ _ hi) λz hz _ eF eQ=>?_);refine Δ (Δ (Δ (vV ?_)));have hl:i.zero.length=z.cells.size:=by rw[(hz η).length];simp
  obtain⟨η',h1,h2⟩:=Trans.new (room:=z.cells.size) (o:=.c i.zero t 0) (ob:=.cells z.cells t) hH (λη' hle=>⟨z.cells,(0,0),rfl,by simp,by simp;omega,λj v hj=>by have:=(hz η').get hj;simpa using this,.inl U⟩)
  refine an (an (an ⟨η',h1,?_⟩));have:=aC.p (η:=η') n 0 _ h2;exact this
 ·cases hc
end ops
end
section
section ops
variable {P:Program}{ty:Ty}{W:Nat->Code->AC->Prop}{η:Env}{T:Tr V}{H H':Hp}{n n':K}{w:World}{tmps:Array Value}{v:V}
theorem G0(hH:bM W η H n w)(e:TypeId){l:List V}{xs:List Value}(hl:bB η l xs)(more:List Value):
 ∃η',Trans W η H n w η' (H.put (some (.c l e 0)) n) n.succ { w with heap:=w.heap.push (.cells (xs++more).toArray e)}/\η' n=some ⟨w.heap.size,0,xs.length+more.length⟩:=
 Trans.new hH λη' hle=>⟨(xs++more).toArray,(0,0),rfl,by simp,by show l.length<=xs.length+more.length;rw[hl.length];omega,λj v hj=>by obtain⟨y,h1,h2⟩:=hl.get hj;refine⟨y,?_,h2.mono hle⟩;have ψ:j<xs.length:=(nL.1 h1).1;simp[uD ψ,h1],.inl U⟩
theorem pM{o:O}{x:V}(h:j4 H n o x=some (v,H',n')):v=x/\H'=H.put (some o) n/\n'=n.succ:=by simp only[j4]at h;injection h with h;injection h with h1 h2;injection h2 with h2 h3;exact⟨h1.symm,h2.symm,h3.symm⟩
theorem aai(hT:br η T tmps)(hG:cM η ty.g)(hH:bM W η H n w){t:TypeId}{x:Operand}{a:A}(hc:en ty (.box t x)=some a)(hs:simple a T H n=some (v,H',n')):
 fL P W η H n w (do pure (.value (←Instr.box t (ax tmps x)))) v H' n':=by
 simp only[en]at hc;split at hc
 ·rename_i x' hx;injection hc with hc;subst hc;simp only[simple]at hs;split at hs
  ·rename_i u hu;cases jo:bN u.cells with
   | false=>rw[jo]at hs;cases hs
   | true=>
    rw[jo]at hs;obtain⟨rfl,rfl,rfl⟩:=pM hs;have hr:=cS hT hG hx hu;obtain⟨y9,_⟩:=hr.cells jo;obtain⟨η',h1,h2⟩:=G0 hH t y9 [];refine gM (Δ (Δ (Δ (vV (an (an (an ⟨η',?_,?_⟩)))))))
    ·simpa using h1
    ·exact aC.p (η:=η') n 0 _ h2
  ·cases hs
 ·cases hc
theorem Ks(hT:br η T tmps)(hG:cM η ty.g){off:Nat->Option (Nat×Nat)}{place:Nat->Option (Nat×Nat)}(hp:∀i o s,off i=some (o,s)->place i=some (o,s))
 {ps:List (Nat×Operand)}{as:List (Nat×Nat×aJ)}{zs r:List V}{cs:Array Value}(hc:zH ty off ps=some as)(hs:rC T zs as=some r)(hz:bB η zs cs.toList):
 ∃DJ,Instr.fill place cs (ps.map λp=>(p.1,ax tmps p.2))=some DJ/\bB η r DJ.toList:=by
 induction ps generalizing as zs cs with
 | nil=>
  simp only[zH]at hc;injection hc with hc;subst hc;simp only[rC]at hs;injection hs with hs;subst hs;exact⟨cs,rfl,hz⟩
 | cons p ps ih=>
  obtain⟨i,x⟩:=p;simp only[zH]at hc;split at hc
  ·rename_i o s x' FT ho hx has;injection hc with hc;subst hc;simp only[rC]at hs;split at hs
   ·rename_i u hu;cases hb:(Nat.beq u.cells.length s&&bN u.cells) with
    | false=>rw[hb]at hs;cases hs
    | true=>
     rw[hb]at hs;simp only[cond_true]at hs;rw[bG]at hb;split at hs
     ·rename_i Jk Yx;have hr:=cS hT hG hx hu;obtain⟨y9,_⟩:=hr.cells hb.2;have hlen:(ax tmps x).cells.size=s:=by
       have h1:=y9.length;have h2:u.cells.length=s:=cZ hb.1;simp at h1;omega
      obtain⟨g1,g2,g3⟩:=Kh Yx;have eQ:cs.size=zs.length:=by rw[hz.length];simp
      have key:∀(l:List Value) (k:Nat) (c:Array Value),(l.zipIdx k).foldl (λcs (y,j)=>cs.setIfInBounds (o+j) y) c=mP c (o+k) l:=by
       intro l
       induction l with
       | nil=>intro k c;rfl
       | cons y l lU=>intro k c;simp only[List.zipIdx_cons,List.foldl_cons,mP];rw[lU];rfl
      have aaj:(ax tmps x).cells.zipIdx.foldl (λcs (y,j)=>cs.setIfInBounds (o+j) y) cs=mP cs o (ax tmps x).cells.toList:=by rw[←Array.foldl_toList,Array.toList_zipIdx];exact key _ 0 cs
      have aak:bB η Jk (mP cs o (ax tmps x).cells.toList).toList:=by
       refine bB.GV (by rw[g1];simp[GW,eQ]) λj v hj=>?_;rw[nK,GX _ _ _ (by rw[←y9.length];omega)];rw[g3]at hj;by_cases qv:o<=j/\j<o+u.cells.length
       ·rw[az qv]at hj;rw[az (by rw[←y9.length];omega)];exact y9.get hj
       ·rw[ai qv]at hj;rw[ai (by rw[←y9.length];omega)];have:=hz.get hj;rwa [nK]at this
      obtain⟨DJ,h1,h2⟩:=ih has hs aak;refine⟨DJ,?_,h2⟩;simp only[ma,Instr.fill,hp i o s ho,hlen];rw[ai (by
       have:u.cells.length=s:=cZ hb.1;simp;omega)]
      rw[aaj];exact h1
     ·cases hs
   ·cases hs
  ·cases hc
theorem PS{l:Array Field}{fs:List (Nat×Nat)}(vG:fs=l.toList.map (λf=>(f.type,f.offset))){i o s:Nat}(h:GN ty fs i=some (o,s)):
 ∃f j,l[i]?=some f/\f.offset=o/\ty f.type=some j/\j.size=s:=by
 unfold GN at h;rw[pL,vG,List.getElem?_map]at h;cases e:l[i]? with
 | none=>rw[nK,e]at h;cases h
 | some f=>
  rw[nK,e]at h;simp only[rz]at h;split at h
  ·rename_i j hj;injection h with h;injection h with h1 h2;exact⟨f,j,rfl,h1,hj,h2⟩
  ·cases h
theorem aal{α β:Type}{f:α->Sem β}{g:α->β}(l:List α)(h:∀a∈l,∀w',bA P (f a) w' λb xf=>b=g a/\xf=w'):
 ∀w,bA P (l.mapM f) w λr w'=>r=l.map g/\w'=w:=by
 induction l with
 | nil=>intro w;exact an ⟨rfl,rfl⟩
 | cons a l ih=>
  intro w;rw[List.mapM_cons];refine Δ ((h a (by simp) w).mono ?_);rintro b w' ⟨rfl,rfl⟩;refine Δ ((ih (λx hx=>h x (by simp[hx])) w').mono ?_);rintro r xf ⟨rfl,rfl⟩;exact an ⟨rfl,rfl⟩
theorem aam{α β:Type}{f:α->Sem β}{g:α->β}(l:Array α)(h:∀a∈l.toList,∀w',bA P (f a) w' λb xf=>b=g a/\xf=w'):
 ∀w,bA P (l.mapM f) w λr w'=>r=l.map g/\w'=w:=by
 intro w;obtain⟨r,w',h1,rfl,rfl⟩:=aal (P:=P) (g:=g) l.toList h w;refine⟨(l.toList.map g).toArray,w',?_,j9 (by simp),rfl⟩;rw[Array.mapM_eq_mapM_toList];show(Sem.bind (l.toList.mapM f) _).run P w'=_;rw[Sem.run_bind',h1];rfl
theorem xR(z:List V)(k:Nat):(gu z k).length=k*z.length:=by
 induction k with
 | zero=>simp[gu]
 | succ k ih=>simp[gu,ih,vP,qs]
theorem G1{z:List V}{zc:Array Value}(h:bB η z zc.toList)(k m:Nat)(hm:m=k*zc.size):bB η (gu z k) ((Array.range m).map (zc[· % zc.size]!)).toList:=by
 have hz:z.length=zc.size:=by rw[h.length];simp
 refine bB.GV (by rw[xR];simp[hm,hz]) λi v hi=>?_;subst hm;have ψ:i<k*zc.size:=by have:=(nL.1 hi).1;rw[xR,hz]at this;exact this
 have mR:0<zc.size:=xy λe=>by rw[e]at ψ;simp at ψ
 have BI:z[i % z.length]?=some v:=by
  clear h
  induction k generalizing i with
  | zero=>simp at ψ
  | succ k ih=>
   simp only[gu]at hi;by_cases h1:i<z.length
   ·rw[uD h1]at hi;rw[zw h1];exact hi
   ·rw[xu (by omega)]at hi;have:=ih (i - z.length) hi (by rw[vP]at ψ;omega);rw[Nat.mod_eq_sub_mod (by omega)];exact this
 rw[hz]at BI;obtain⟨y,hy,hv⟩:=h.get BI;refine⟨y,?_,hv⟩;rw[nK]at hy ⊢;simp only[Array.getElem?_map,Array.getElem?_range];rw[az ψ];simp only[rz];rw[getElem!_pos zc _ (mb _ mR)];rw[nI (mb _ mR)]at hy;exact hy
theorem aan(aW:dO P ty)(hT:br η T tmps)(hG:cM η ty.g)(hH:bM W η H n w){t:TypeId}{ps:Array (Nat×Operand)}{a:A}(hc:en ty (.build t ps)=some a)
 (hs:simple a T H n=some (v,H',n')):fL P W η H n w (do pure (.value (←Instr.build t (ps.map λ(i,x)=>(i,ax tmps x))))) v H' n':=by
 simp only[en]at hc;split at hc
 case h_2=>cases hc
 rename_i i hi;have DK:=aW.ok _ _ hi;have Oo:(ps.map λ(i,x)=>(i,ax tmps x)).toList=ps.toList.map λp=>(p.1,ax tmps p.2):=by simp
 split at hc
 ·rename_i fs plain hd;split at hc
  ·rename_i l hl;injection hc with hc;subst hc;simp only[simple]at hs;split at hs
   ·rename_i r hr;injection hs with hs;injection hs with e1 e2;injection e2 with e2 e3;subst e1;subst e2;subst e3;have dK:=DK.desc;rw[hd]at dK;obtain⟨sf,hu,vG,jo,_⟩:=dK;refine gM (Δ (sU DK λz hz _ _ _=>?_));refine Δ (bS hu ?_);refine Δ ((aam (g:=λf:Field=>(f.offset,((P.info? f.type).map (·.size)).getD 0)) sf (λf hf w'=>?_) w).mono ?_)
    ·obtain⟨ti,PT⟩:=jo f hf;refine Δ (Δ (xQ PT (an (an ⟨?_,rfl⟩))));simp[PT]
    ·rintro r' w' ⟨rfl,rfl⟩;obtain⟨DJ,h1,h2⟩:=Ks (place:=λk=>(sf.map (λf:Field=>(f.offset,((P.info? f.type).map (·.size)).getD 0)))[k]?) hT hG (λk o sz h=>by
      obtain⟨f,j,g1,g2,g3,g4⟩:=PS vG h;obtain⟨ti,z',q1,q2,_⟩:=(aW.ok _ _ g3).info;simp[g1,q1,g2,q2,g4]) hl hr (hz η)
     rw[Oo,h1];exact an ⟨η,.refl hH,.a _ _ h2⟩
   ·cases hs
  ·cases hc
 ·rename_i m e hd;split at hc
  ·rename_i j hj;split at hc
   ·rename_i l hl;injection hc with hc;subst hc;simp only[simple]at hs;split at hs
    ·rename_i r hr;injection hs with hs;injection hs with e1 e2;injection e2 with e2 e3;subst e1;subst e2;subst e3;have dK:=DK.desc;rw[hd]at dK;refine gM (Δ (sU DK λz hz _ _ _=>?_));refine Δ (bS dK ?_);refine Δ (mQ (aW.ok _ _ hj) ?_);obtain⟨DJ,h1,h2⟩:=Ks (place:=λi=>some (i*j.size,j.size)) hT hG (λ_ _ _ h=>h) hl hr (hz η);rw[Oo,h1];exact an ⟨η,.refl hH,.a _ _ h2⟩
    ·cases hs
   ·cases hc
  ·cases hc
 ·cases hc
end ops
end
section
section ops
variable {P:Program}{ty:Ty}{W:Nat->Code->AC->Prop}{η:Env}{T:Tr V}{H H':Hp}{n n':K}{w:World}{tmps:Array Value}{v:V}
theorem PU(hT:br η T tmps)(hG:cM η ty.g)(hH:bM W η H n w){x:Operand}{a:aJ}(hx:cr ty x=some a)(hs:simple (.mv a) T H n=some (v,H',n')):
 fL P W η H n w (pure (.value (ax tmps x))) v H' n':=by
 obtain⟨h1,rfl,rfl⟩:=lG hs;exact Om hH (cS hT hG hx h1)
theorem aao(hT:br η T tmps)(hG:cM η ty.g)(hH:bM W η H n w){x y z:Operand}{a:A}(hc:en ty (.pick x y z)=some a)(hs:simple a T H n=some (v,H',n')):
 fL P W η H n w (do pure (.value (if←asBool (ax tmps x) then ax tmps y else ax tmps z))) v H' n':=by
 simp only[en]at hc;split at hc
 ·rename_i x' y' z' hx hy hz;injection hc with hc;subst hc;simp only[simple]at hs;split at hs
  ·rename_i b hb;obtain⟨h1,rfl,rfl⟩:=lG hs;have hr:=cS hT hG hx hb;generalize ax tmps x=q at hr;cases hr;refine Δ (an ?_);refine an ⟨η,.refl hH,.inl ⟨_,rfl,?_⟩⟩;cases b with
   | true=>exact cS hT hG hy h1
   | false=>exact cS hT hG hz h1
  ·cases hs
 ·cases hc
theorem aap(aW:dO P ty)(hT:br η T tmps)(hG:cM η ty.g)(hH:bM W η H n w){t:TypeId}{len:Nat}{ps:Array (Nat×Operand)}{a:A}
 (hc:en ty (.buildSlice t len ps)=some a)(hs:simple a T H n=some (v,H',n')):
 fL P W η H n w (do pure (.value (←Instr.buildSlice t len (ps.map λ(i,x)=>(i,ax tmps x))))) v H' n':=by
 simp only[en]at hc;split at hc
 case h_2=>cases hc
 rename_i i hi;have Oo:(ps.map λ(i,x)=>(i,ax tmps x)).toList=ps.toList.map λp=>(p.1,ax tmps p.2):=by simp
 split at hc
 ·rename_i e hd;split at hc
  ·rename_i j hj;cases hb:Nat.ble (len*j.size) 16777216 with
   | false=>rw[hb]at hc;cases hc
   | true=>
    rw[hb]at hc;simp only[cond_true]at hc;split at hc
    ·rename_i l hl;injection hc with hc;subst hc;simp only[simple]at hs;split at hs
     ·rename_i r hr;obtain⟨rfl,rfl,rfl⟩:=pM hs;have dK:=(aW.ok _ _ hi).desc;rw[hd]at dK;refine gM (Δ (bS dK ?_));refine Δ (mQ (aW.ok _ _ hj) ?_);have hle:¬ len*j.size>2 ^ 24:=by have:=nJ hb;omega
      simp only[hle,if_false];have kf:∀z:Array Value,(∀η,bB η (gu j.zero len) ((Array.range (len*j.size)).map (z[· % z.size]!)).toList)->bA P (do
       let some cells:=Instr.fill (λi=>some (i*j.size,j.size)) ((Array.range (len*j.size)).map (z[· % z.size]!)) (ps.map λ(i,x)=>(i,ax tmps x)).toList
        | stuck "buildSlice: a part of the wrong size"
       pure (.slice (some (←newRow e cells)) len len)) w λy w'=>∃η',Trans W η H n w η' (H.put (some (.c r e 0)) n) n.succ w'/\aC η' (.sl n 0 len len) y:=by
       intro z hz;obtain⟨DJ,h1,h2⟩:=Ks (place:=λi=>some (i*j.size,j.size)) hT hG (λ_ _ _ h=>h) hl hr (hz η);rw[Oo,h1];obtain⟨η',g1,g2⟩:=G0 hH e h2 [];refine Δ (Δ (vV (an (an ⟨η',?_,?_⟩))))
       ·simpa using g1
       ·exact aC.sl (η:=η') n 0 len len _ g2
      by_cases h0:len*j.size=0
      ·rw[az h0];exact Δ (an (kf #[] (λη=>by
        obtain⟨ti,z,_,_,_,_,_,_,_,q,_⟩:=(aW.ok _ _ hj).info;have:gu j.zero len=[]:=by rw[←nM,xR,q,h0]
        rw[this,h0];have e0:Array.range 0=#[]:=rfl;rw[e0,Array.map_empty];exact .nil)))
      ·rw[ai h0];refine Δ (sU (aW.ok _ _ hj) λz hz _ _ eQ=>Δ (an ?_));exact kf z.cells (λη=>G1 (hz η) len _ (by rw[eQ]))
     ·cases hs
    ·cases hc
  ·cases hc
 ·cases hc
theorem aaq(hT:br η T tmps)(hG:cM η ty.g)(hH:bM W η H n w){x:Operand}{a:A}(hc:en ty (.nilCheck x)=some a)(hs:simple a T H n=some (v,H',n'))(o:Oper)(ho:o.op=.nilCheck x):
 fL P W η H n w (execOp (ax tmps) o) v H' n':=by
 simp only[en]at hc;split at hc
 ·rename_i x' hx;injection hc with hc;subst hc;unfold execOp;simp only[ho];simp only[simple]at hs;split at hs
  ·rename_i b o' hb;injection hs with hs;injection hs with e1 e2;injection e2 with e2 e3;subst e1;subst e2;subst e3;have hr:=cS hT hG hx hb;generalize ax tmps x=q at hr;cases hr with
   | p _ _ L hL=>exact Om hH (.p _ _ L hL)
  ·rename_i g a c hb;injection hs with hs;injection hs with e1 e2;injection e2 with e2 e3;subst e1;subst e2;subst e3;have hr:=cS hT hG hx hb;generalize ax tmps x=q at hr;cases hr with
   | f _ _ _ _ _ h1 h2=>exact Om hH (.f _ _ _ _ _ h1 h2)
  ·rename_i l hb;injection hs with hs;injection hs with e1 e2;injection e2 with e2 e3;subst e1;subst e2;subst e3;have hr:=cS hT hG hx hb;generalize ax tmps x=q at hr;cases hr with
   | y _ L hL=>exact Om hH (.y _ L hL)
  ·cases hs
 ·cases hc
theorem PV{t:TypeId}{d:TD}(h:Kk P t d)(h1:d≠.other)(h2:d≠.iface):∃u,P.underlying t=some u/\∀ms,u≠.interface ms:=by
 cases d with
 | other=>exact absurd rfl h1
 | iface=>exact absurd rfl h2
 | rF fs plain=>obtain⟨l,a,_⟩:=h;exact⟨_,a,λ_ e=>by cases e⟩
 | func=>obtain⟨_,_,_,a⟩:=h;exact⟨_,a,λ_ e=>by cases e⟩
 | bool=>exact⟨_,h,λ_ e=>by cases e⟩
 | int _=>exact⟨_,h,λ_ e=>by cases e⟩
 | str=>exact⟨_,h,λ_ e=>by cases e⟩
 | ptr _=>exact⟨_,h,λ_ e=>by cases e⟩
 | BE=>exact⟨_,h,λ_ e=>by cases e⟩
 | slice _=>exact⟨_,h,λ_ e=>by cases e⟩
 | arr _ _=>exact⟨_,h,λ_ e=>by cases e⟩
 | map _ _=>exact⟨_,h,λ_ e=>by cases e⟩
theorem aar(aW:dO P ty)(hT:br η T tmps)(hG:cM η ty.g)(hH:bM W η H n w){t:TypeId}{x:Operand}{a:A}(hc:en ty (.makeInterface t x)=some a)
 (hs:simple a T H n=some (v,H',n')):fL P W η H n w (do pure (.value (←Instr.makeInterface t (ax tmps x)))) v H' n':=by
 simp only[en]at hc;split at hc
 ·rename_i i x' hi hx;have hd:=(aW.ok _ _ hi).desc;have bC:a=.mif t x'/\i.desc≠.other/\i.desc≠.iface:=by
   split at hc
   ·cases hc
   ·cases hc
   ·rename_i h1 h2;injection hc with hc;exact⟨hc.symm,h2,h1⟩
  obtain⟨rfl,h1,h2⟩:=bC;obtain⟨u,hu,Kt⟩:=PV hd h1 h2;simp only[simple]at hs;split at hs
  ·rename_i y hy;injection hs with hs;injection hs with e1 e2;injection e2 with e2 e3;subst e1;subst e2;subst e3;refine gM (Δ (bS hu ?_));have hr:=cS hT hG hx hy;cases u<;>first | exact absurd rfl (Kt _) | exact an ⟨η,.refl hH,.lD _ _ _ hr⟩
  ·cases hs
 ·cases hc
theorem aas(hT:br η T tmps)(hG:cM η ty.g)(hH:bM W η H n w){fn:Fn}{f c:Array Operand}{a:A}(hc:en ty (.makeFunc fn f c)=some a)
 (hs:simple a T H n=some (v,H',n')):fL P W η H n w (do pure (.value (←Instr.makeFunc fn (f.map (ax tmps)) (c.map (ax tmps))))) v H' n':=by
 simp only[en]at hc;split at hc
 ·rename_i g;split at hc
  ·rename_i f' c' hf tZ;injection hc with hc;subst hc;simp only[simple]at hs;split at hs
   ·rename_i a1 a2 h1 h2;injection hs with hs;injection hs with e1 e2;injection e2 with e2 e3;subst e1;subst e2;subst e3;refine gM (an ⟨η,.refl hH,?_⟩);have r1:=BH hT hG hf h1;have r2:=BH hT hG tZ h2;have e1:f.map (ax tmps)=⟨f.toList.map (ax tmps)⟩:=by apply j9;simp
    have e2:c.map (ax tmps)=⟨c.toList.map (ax tmps)⟩:=by apply j9;simp
    rw[e1,e2];exact .f _ _ _ _ _ r1 r2
   ·cases hs
  ·cases hc
 ·cases hc
theorem aat(aW:dO P ty)(hH:bM W η H n w){t:TypeId}{r:Option Operand}{a:A}(hc:en ty (.makeMap t r)=some a)
 (hs:simple a T H n=some (v,H',n')):fL P W η H n w (do pure (.value (←Instr.makeMap t (r.map (ax tmps))))) v H' n':=by
 simp only[en]at hc;split at hc
 case h_2=>cases hc
 rename_i i hi;have hd:=(aW.ok _ _ hi).desc;have key:a=.mmap->bA P (do pure (.map (some (←newObj (.map #[] 0)))):Sem Value) w λy w'=>∃η',Trans W η H n w η' H' n' w'/\aC η' v y:=by rintro rfl;obtain⟨rfl,rfl,rfl⟩:=pM hs;obtain⟨η',h1,h2⟩:=Trans.new (room:=0) (o:=.mp [] 0) (ob:=.map #[] 0) hH (λη' hle=>⟨#[],rfl,trivial⟩);exact Δ (vV (an ⟨η',h1,aC.m (η:=η') n _ h2⟩))
 split at hc
 ·injection hc with hc;exact gM (key hc.symm)
 ·rename_i k e kk nn CL;injection hc with hc;rw[CL]at hd;refine gM ?_;unfold Instr.makeMap;exact Δ (bS hd (Δ (Δ (an (an (key hc.symm))))))
 ·cases hc
end ops
end
section
theorem wrap_i64{n:Int}(h0:0<=n)(h1:n<=9223372036854775807):IntKind.i64.wrap n=n:=by unfold IntKind.wrap;have hm:n % (2 ^ IntKind.i64.bits:Int)=n:=Int.emod_eq_of_lt h0 (by have:(2:Int) ^ IntKind.i64.bits=18446744073709551616:=rfl;omega);simp only[hm];rw[ai];intro h;rw[bG,bT]at h;have:(2:Int) ^ (IntKind.i64.bits - 1)=9223372036854775808:=rfl;omega
section ops
variable {P:Program}{ty:Ty}{W:Nat->Code->AC->Prop}{η:Env}{T:Tr V}{H H':Hp}{n n':K}{w:World}{tmps:Array Value}{v:V}
theorem eo{a:V}{b:Hp}{c:K}(h:(some (a,b,c):gC)=some (v,H',n')):v=a/\H'=b/\n'=c:=by injection h with h;injection h with h1 h2;injection h2 with h2 h3;exact⟨h1.symm,h2.symm,h3.symm⟩
theorem aau(aW:dO P ty)(hT:br η T tmps)(hG:cM η ty.g)(hH:bM W η H n w){t:TypeId}{x:Operand}{f:Nat}{a:A}(hc:en ty (.fieldAddr t x f)=some a)
 (hs:simple a T H n=some (v,H',n')):fL P W η H n w (do pure (.value (←Instr.fieldAt t (ax tmps x) f))) v H' n':=by
 simp only[en]at hc;split at hc
 case h_2=>cases hc
 rename_i i x' hi hx;split at hc
 case h_2=>cases hc
 rename_i fs plain hd;have dK:=(aW.ok _ _ hi).desc;rw[hd]at dK;obtain⟨sf,hu,vG,_⟩:=dK;split at hc
 case h_2=>cases hc
 rename_i o sz hf;cases hb:Nat.beq sz 0 with
 | true=>rw[hb]at hc;cases hc
 | false=>
  rw[hb]at hc;simp only[cond_false]at hc;injection hc with hc;subst hc;obtain⟨fd,j,g1,g2,g3,g4⟩:=PS vG hf;simp only[simple]at hs;split at hs
  ·rename_i b o' jO;obtain⟨rfl,rfl,rfl⟩:=eo hs;have hr:=cS hT hG hx jO;generalize ax tmps x=q at hr;cases hr with
   | p _ _ L hL=>
    refine gM (Δ (bS hu ?_));simp only[g1];refine Δ (an ?_);refine Δ (Δ (mQ (aW.ok _ _ g3) ?_));have bC:¬ j.size=0:=by intro e;rw[g4]at e;rw[e]at hb;cases hb
    simp only[bC,if_false];refine an (an ⟨η,.refl hH,?_⟩);rw[sT,g2];have:=aC.p (η:=η) b (o'+o) L hL;rw[show L.off+o'+o=L.off+(o'+o) by omega];exact this
  ·cases hs
theorem Ku{t:TypeId}{i:TI}(hi:vX P t i){l:List V}{cs:Array Value}(hl:bB η l cs.toList){o:Nat}{v:V}
 (h:(bif i.desc.agg then (match dt l o i.size with | some l'=>some (V.a l') | none=>none) else nth l o)=some v):
 bA P (part t cs o) w λy w'=>aC η v y/\w'=w:=by
 refine Δ (PN hi ?_);cases hg:i.desc.agg with
 | true=>
  rw[hg]at h;simp only[cond_true]at h;split at h
  ·rename_i r hr;injection h with h;subst h;obtain⟨rfl,hn⟩:=oI hr;simp only[if_true];refine Δ (mQ hi (an ⟨?_,rfl⟩));have:cs.extract o (o+i.size)=⟨(cs.toList.drop o).take i.size⟩:=by
    apply j9;simp
   rw[this];exact .a _ _ (hl.sub o i.size)
  ·cases h
 | false=>
  rw[hg]at h;simp only[cond_false]at h;rw[pL]at h;obtain⟨y,hy,hv⟩:=hl.get h;rw[nK]at hy;simp only[zt,if_false,hy];exact an ⟨hv,rfl⟩
theorem aav(aW:dO P ty)(hT:br η T tmps)(hG:cM η ty.g)(hH:bM W η H n w){t:TypeId}{x:Operand}{f:Nat}{a:A}(hc:en ty (.field t x f)=some a)
 (hs:simple a T H n=some (v,H',n')):fL P W η H n w (do pure (.value (←Instr.field t (ax tmps x) f))) v H' n':=by
 simp only[en]at hc;split at hc
 case h_2=>cases hc
 rename_i i x' hi hx;split at hc
 case h_2=>cases hc
 rename_i fs plain hd;have dK:=(aW.ok _ _ hi).desc;rw[hd]at dK;obtain⟨sf,hu,vG,_⟩:=dK;split at hc
 case h_2=>cases hc
 rename_i ft o hf;split at hc
 case h_2=>cases hc
 rename_i j hj;injection hc with hc;subst hc;rw[pL,vG,List.getElem?_map,nK]at hf;cases e:sf[f]? with
 | none=>rw[e]at hf;cases hf
 | some fd=>
  rw[e]at hf;simp only[rz]at hf;injection hf with hf;injection hf with e1 e2;simp only[simple]at hs;split at hs
  ·rename_i l hl;have hr:=cS hT hG hx hl;generalize ax tmps x=q at hr;cases hr with
   | a _ l' hr=>
    refine gM (Δ (bS hu ?_));simp only[e];refine Δ (an ?_);rw[e1,e2];have hp:(bif j.desc.agg then (match dt l o j.size with | some l'=>some (V.a l') | none=>none) else nth l o)=some v/\H'=H/\n'=n:=by
     cases hg:j.desc.agg with
     | true=>
      rw[hg]at hs;simp only[cond_true]at hs ⊢;split at hs
      ·rename_i r hr;obtain⟨rfl,rfl,rfl⟩:=eo hs;simp only[hr,and_self]
      ·cases hs
     | false=>
      rw[hg]at hs;simp only[cond_false]at hs ⊢;exact lG hs
    obtain⟨hp,rfl,rfl⟩:=hp;exact(Ku (aW.ok _ _ hj) (cs:=⟨l'⟩) hr hp).mono λy w' ⟨h1,h2⟩=>⟨η,by subst h2;exact .refl hH,h1⟩
  ·cases hs
theorem aaw(aW:dO P ty)(hT:br η T tmps)(hG:cM η ty.g)(hH:bM W η H n w){t:TypeId}{x ix:Operand}{a:A}(hc:en ty (.indexAddr t x ix)=some a)
 (hs:simple a T H n=some (v,H',n')):fL P W η H n w (do pure (.value (←Instr.indexAt t (ax tmps x) (ax tmps ix)))) v H' n':=by
 simp only[en]at hc;split at hc
 case h_2=>cases hc
 rename_i i x' ix' hi hx Kv;have dK:=(aW.ok _ _ hi).desc;split at hc
 ·rename_i m e hd;rw[hd]at dK;split at hc
  case h_2=>cases hc
  rename_i j hj;injection hc with hc;subst hc;simp only[simple]at hs;split at hs
  case h_2=>cases hs
  rename_i x1 k1 i1 h1 h2;have eR:=cS hT hG hx h1;have fQ:=cS hT hG Kv h2;generalize ax tmps x=q1 at eR;generalize ax tmps ix=q2 at fQ;cases fQ with
  | i _ _=>
   split at hs
   case h_2 heq=>cases heq
   case h_3 heq=>cases heq
   case h_4=>cases hs
   rename_i m' b o heq;injection heq with heq;subst heq;cases hb:Nat.blt i1 m with
   | false=>rw[hb]at hs;cases hs
   | true=>
    rw[hb]at hs;obtain⟨rfl,rfl,rfl⟩:=eo hs;have ψ:i1<m:=by have:i1+1<=m:=nJ hb;omega
    cases eR with
    | p _ _ L hL=>
     refine gM (Δ (an (Δ (bS dK ?_))));refine Δ (an ?_);refine Δ (an ?_);refine Δ (bS dK ?_);have:(0:Int)<=Int.ofNat i1/\Int.ofNat i1<(m:Int):=⟨sI _,Int.ofNat_lt.2 ψ⟩;simp only[this,and_self,if_true];refine Δ (mQ (aW.ok _ _ hj) (an ⟨η,.refl hH,?_⟩));rw[sT];have:=aC.p (η:=η) b (o+i1*j.size) L hL;show aC η _ (.pointer (some ⟨L.blk,L.off+o+i1*j.size,none⟩));rw[show L.off+o+i1*j.size=L.off+(o+i1*j.size) by omega];exact this
 ·rename_i e hd;rw[hd]at dK;split at hc
  case h_2=>cases hc
  rename_i j hj;injection hc with hc;subst hc;simp only[simple]at hs;split at hs
  case h_2=>cases hs
  rename_i x1 k1 i1 h1 h2;have eR:=cS hT hG hx h1;have fQ:=cS hT hG Kv h2;generalize ax tmps x=q1 at eR;generalize ax tmps ix=q2 at fQ;cases fQ with
  | i _ _=>
   have main:∀(b:K) (o l c:Nat) (L:Loc),η b=some L->q1=.slice (some ⟨L.blk,L.off+o,none⟩) l c->Nat.blt i1 l=true->some (V.p b (Nat.add o (Nat.mul i1 j.size)),H,n)=some (v,H',n')->fL P W η H n w (do pure (.value (←Instr.indexAt t q1 (.int k1 (Int.ofNat i1))))) v H' n':=by
    rintro b o l c L hL rfl hb hs;obtain⟨rfl,rfl,rfl⟩:=eo hs;have ψ:i1<l:=by have:i1+1<=l:=nJ hb;omega
    refine gM (Δ (an (Δ (bS dK ?_))));refine Δ (an ?_);refine Δ (bS dK ?_);have:(0:Int)<=Int.ofNat i1/\Int.ofNat i1<(l:Int):=⟨sI _,Int.ofNat_lt.2 ψ⟩;simp only[this,and_self,if_true];refine Δ (mQ (aW.ok _ _ hj) (an ⟨η,.refl hH,?_⟩));rw[sT];have:=aC.p (η:=η) b (o+i1*j.size) L hL;show aC η _ (.pointer (some ⟨L.blk,L.off+o+i1*j.size,none⟩));rw[show L.off+o+i1*j.size=L.off+(o+i1*j.size) by omega];exact this
   split at hs
   case h_1 heq=>cases heq
   case h_4=>cases hs
   ·rename_i b o l c heq;cases eR with
    | sl _ _ _ _ L hL=>
     cases hb:Nat.blt i1 l with
     | false=>rw[hb]at hs;cases hs
     | true=>rw[hb]at hs;exact main b o l c L hL rfl hb hs
   ·rename_i b o l c heq;cases hb:Nat.blt i1 l with
    | false=>rw[hb]at hs;cases hs
    | true=>
     rw[hb]at hs;cases eR with
     | su _ _ _ _ L c' hL h1 h2=>exact main b o l c' L hL rfl hb hs
     | se=>cases hb
 ·cases hc
end ops
end
section
section ops
variable {P:Program}{ty:Ty}{W:Nat->Code->AC->Prop}{η:Env}{T:Tr V}{H H':Hp}{n n':K}{w:World}{tmps:Array Value}{v:V}
theorem aax{l m i:Nat}(h:i<l):(strOf l m)[i]?=some (UInt8.ofNat (m / 256 ^ i % 256)):=by
 have:=PH l m i h;show(strOf l m)[i]?=_;have hs:i<(strOf l m).size:=by rw[uI];exact h
 rw[getElem?_pos (strOf l m) i hs];have e:(strOf l m)[i]=(cH l m).toArray[i]'(by simpa[rG]using h):=rfl;rw[e];rw[gP (by rw[rG];exact h)]at this;simpa using this
theorem aay(aW:dO P ty)(hT:br η T tmps)(hG:cM η ty.g)(hH:bM W η H n w){t:TypeId}{x ix:Operand}{a:A}(hc:en ty (.index t x ix)=some a)
 (hs:simple a T H n=some (v,H',n')):fL P W η H n w (do pure (.value (←Instr.index t (ax tmps x) (ax tmps ix)))) v H' n':=by
 simp only[en]at hc;split at hc
 case h_2=>cases hc
 rename_i i x' ix' hi hx Kv;have dK:=(aW.ok _ _ hi).desc;split at hc
 ·rename_i hd;rw[hd]at dK;injection hc with hc;subst hc;simp only[simple]at hs;split at hs
  case h_2=>cases hs
  rename_i x1 k1 i1 h1 h2;have eR:=cS hT hG hx h1;have fQ:=cS hT hG Kv h2;generalize ax tmps x=q1 at eR;generalize ax tmps ix=q2 at fQ;cases fQ with
  | i _ _=>
   split at hs
   case h_2 heq=>cases heq
   case h_3=>cases hs
   rename_i l m _;cases eR with
   | s _ _ hm=>
    cases hb:Nat.blt i1 l with
    | false=>rw[hb]at hs;cases hs
    | true=>
     rw[hb]at hs;obtain⟨rfl,rfl,rfl⟩:=eo hs;have ψ:i1<l:=by have:i1+1<=l:=nJ hb;omega
     refine gM (Δ (an ?_));refine Δ (bS dK ?_);have h0:(0:Int)<=Int.ofNat i1:=sI _;simp only[h0,if_true];rw[show(Int.ofNat i1).toNat=i1 from rfl,aax ψ];refine an ⟨η,.refl hH,?_⟩;have:((UInt8.ofNat (m / 256 ^ i1 % 256)).toNat:Int)=Int.ofNat (Jj m i1):=by have e1:Jj m i1=m / 256 ^ i1 % 256:=rfl;rw[e1];simp
     rw[this];exact .i _ _
 ·rename_i m e hd;rw[hd]at dK;split at hc
  case h_2=>cases hc
  rename_i j hj;injection hc with hc;subst hc;simp only[simple]at hs;split at hs
  case h_2=>cases hs
  rename_i x1 k1 i1 h1 h2;have eR:=cS hT hG hx h1;have fQ:=cS hT hG Kv h2;generalize ax tmps x=q1 at eR;generalize ax tmps ix=q2 at fQ;cases fQ with
  | i _ _=>
   split at hs
   case h_1 heq=>cases heq
   case h_3=>cases hs
   rename_i m' z agg l heq;injection heq with heq;injection heq with e1 e2;injection e2 with e2 e3;subst e1;subst e2;subst e3;cases eR with
   | a _ l' hr=>
    cases hb:Nat.blt i1 m with
    | false=>rw[hb]at hs;cases hs
    | true=>
     rw[hb]at hs;simp only[cond_true]at hs;have ψ:i1<m:=by have:i1+1<=m:=nJ hb;omega
     have hp:(bif j.desc.agg then (match dt l (Nat.mul i1 j.size) j.size with | some l'=>some (V.a l') | none=>none) else nth l (Nat.mul i1 j.size))=some v/\H'=H/\n'=n:=by
      cases hg:j.desc.agg with
      | true=>
       rw[hg]at hs;simp only[cond_true]at hs ⊢;split at hs
       ·rename_i r hr;obtain⟨rfl,rfl,rfl⟩:=eo hs;simp only[hr,and_self]
       ·cases hs
      | false=>
       rw[hg]at hs;simp only[cond_false]at hs ⊢;exact lG hs
     obtain⟨hp,rfl,rfl⟩:=hp;refine gM (Δ (an ?_));refine Δ (bS dK ?_);have:(0:Int)<=Int.ofNat i1/\Int.ofNat i1<(m:Int):=⟨sI _,Int.ofNat_lt.2 ψ⟩;simp only[this,and_self,if_true];refine Δ (mQ (aW.ok _ _ hj) ?_);exact(Ku (aW.ok _ _ hj) (cs:=⟨l'⟩) hr hp).mono λy w' ⟨h1,h2⟩=>⟨η,by subst h2;exact .refl hH,h1⟩
 ·cases hc
theorem aaz(hT:br η T tmps)(hG:cM η ty.g)(hH:bM W η H n w){x:Operand}{i:Nat}{a:A}(hc:en ty (.extract x i)=some a)
 (hs:simple a T H n=some (v,H',n')):fL P W η H n w (do pure (.value (←Instr.extract (ax tmps x) i))) v H' n':=by
 simp only[en]at hc;split at hc
 case h_2=>cases hc
 rename_i x' hx;injection hc with hc;subst hc;simp only[simple]at hs;split at hs
 case h_2=>cases hs
 rename_i l hl;obtain⟨h1,rfl,rfl⟩:=lG hs;have hr:=cS hT hG hx hl;generalize ax tmps x=q at hr;cases hr with
 | u _ l' hr=>
  rw[pL]at h1;obtain⟨y,hy,hv⟩:=hr.get h1;refine gM ?_;have:(⟨l'⟩:Array Value)[i]?=some y:=by simpa using hy
  simp only[Instr.extract,this];exact an ⟨η,.refl hH,hv⟩
theorem Kw{ok:Bool}{z:V}{b:Bool}{y:Value}(h:aC η z y):aC η (zG ok z b) (if ok then .tuple #[y,.bool b] else y):=by
 cases ok with
 | true=>exact .u _ _ (.cons _ _ _ _ h (.cons _ _ _ _ (.b b) .nil))
 | false=>exact h
theorem aaA(aW:dO P ty)(hT:br η T tmps)(hG:cM η ty.g)(hH:bM W η H n w){x:Operand}{xt t:TypeId}{ok:Bool}{a:A}(hc:en ty (.typeAssert x xt t ok)=some a)
 (hs:simple a T H n=some (v,H',n')):fL P W η H n w (do pure (.value (←Instr.typeAssert (ax tmps x) xt t ok))) v H' n':=by
 simp only[en]at hc;split at hc
 case h_2=>cases hc
 rename_i i x' hi hx;have hd:=(aW.ok _ _ hi).desc;have bC:a=.tas t i.zeroV ok x'/\i.desc≠.other/\i.desc≠.iface:=by
  split at hc
  ·cases hc
  ·cases hc
  ·rename_i h1 h2;injection hc with hc;exact⟨hc.symm,h2,h1⟩
 obtain⟨rfl,g1,g2⟩:=bC;obtain⟨u,hu,Kt⟩:=PV hd g1 g2;have PW:ok=true->bA P (do pure (.tuple #[←zeroValue t,.bool false]):Sem Value) w λy w'=>∃η',Trans W η H n w η' H n w'/\aC η' (.u [i.zeroV,.b false]) y:=λ_=>
  Δ (sU (aW.ok _ _ hi) λz _ hz _ _=>an ⟨η,.refl hH,.u _ _ (.cons _ _ _ _ (hz η) (.cons _ _ _ _ (.b _) .nil))⟩)
 simp only[simple]at hs;split at hs
 ·rename_i hy;cases ok with
  | false=>cases hs
  | true=>
   obtain⟨rfl,rfl,rfl⟩:=eo hs;have hr:=cS hT hG hx hy;generalize ax tmps x=q at hr;cases hr;refine gM (Δ (bS hu ?_));cases u<;>first | exact absurd rfl (Kt _) | exact PW rfl
 ·rename_i t' v' hy;have hr:=cS hT hG hx hy;generalize ax tmps x=q at hr;cases hr with
  | lD _ _ y hr=>
   cases hb:Nat.beq t t' with
   | true=>
    rw[hb]at hs;obtain⟨rfl,rfl,rfl⟩:=eo hs;have e:t'=t:=(cZ hb).symm;subst e;refine gM (Δ (bS hu ?_));cases u<;>first
     | exact absurd rfl (Kt _)
     | (simp only[if_true];exact an ⟨η,.refl hH,Kw hr⟩)
   | false=>
    rw[hb]at hs;simp only[cond_false]at hs;cases ok with
    | false=>cases hs
    | true=>
     obtain⟨rfl,rfl,rfl⟩:=eo hs;have e:¬ t'=t:=λe=>by subst e;simp[Nat.beq_refl]at hb
     refine gM (Δ (bS hu ?_));cases u<;>first
      | exact absurd rfl (Kt _)
      | (simp only[e,if_false];exact PW rfl)
 ·cases hs
end ops
end
section
theorem aaB{k:IntKind}{n:Int}(h:fits k n=true):k.wrap n=n:=by
 have key:∀(b:Nat) (s:Bool) (B C:Int),(2:Int) ^ b=B->(2:Int) ^ (b - 1)=C->B=2*C->0<C->(s=true -> -C<=n/\n<C)->(s=false->0<=n/\n<B)->(if s&&decide (n % (2 ^ b:Int)>=(2 ^ (b - 1):Int)) then n % (2 ^ b:Int) - (2 ^ b:Int) else n % (2 ^ b:Int))=n:=by
  intro b s B C hB hC hBC mR h1 h2;rw[hB,hC];cases s with
  | false=>
   obtain⟨a,c⟩:=h2 rfl;simp only[Df,zt,if_false];exact Int.emod_eq_of_lt a c
  | true=>
   obtain⟨a,c⟩:=h1 rfl;by_cases hn:0<=n
   ·have:n % B=n:=Int.emod_eq_of_lt hn (by omega);rw[this,ai];simp;omega
   ·have:n % B=n+B:=by
     have:=Int.add_emod_right n B;rw[←this];exact Int.emod_eq_of_lt (by omega) (by omega)
    rw[this,az]
    ·omega
    ·simp;omega
 unfold IntKind.wrap;cases k<;>cases n<;>first | (cases h;done) | skip
 all_goals
  rename_i m;have hm:=nJ h;have e1:Int.ofNat m=(m:Int):=rfl
 ·exact key 32 true 4294967296 2147483648 rfl rfl rfl (by omega) (λ_=>⟨by omega,by omega⟩) (λe=>by cases e)
 ·exact key 32 true 4294967296 2147483648 rfl rfl rfl (by omega) (λ_=>⟨by omega,by omega⟩) (λe=>by cases e)
 ·exact key 64 true 18446744073709551616 9223372036854775808 rfl rfl rfl (by omega) (λ_=>⟨by omega,by omega⟩) (λe=>by cases e)
 ·exact key 64 true 18446744073709551616 9223372036854775808 rfl rfl rfl (by omega) (λ_=>⟨by omega,by omega⟩) (λe=>by cases e)
 ·exact key 8 false 256 128 rfl rfl rfl (by omega) (λe=>by cases e) (λ_=>⟨by omega,by omega⟩)
 ·exact key 16 false 65536 32768 rfl rfl rfl (by omega) (λe=>by cases e) (λ_=>⟨by omega,by omega⟩)
 ·exact key 32 false 4294967296 2147483648 rfl rfl rfl (by omega) (λe=>by cases e) (λ_=>⟨by omega,by omega⟩)
 ·exact key 64 false 18446744073709551616 9223372036854775808 rfl rfl rfl (by omega) (λe=>by cases e) (λ_=>⟨by omega,by omega⟩)
theorem sV(k:IntKind)(n:Int):wr k n=k.wrap n:=by
 unfold wr;cases h:fits k n with
 | true=>exact(aaB h).symm
 | false=>rfl
theorem BJ(a b:Int):sg a b=(a==b):=by
 cases a<;>cases b<;>simp[sg]
 ·rename_i m n;rw[sJ];simp[Nat.beq_eq];omega
 ·rename_i m n;rw[sJ];simp[Nat.beq_eq]
theorem DL(a b:Int):xd a b=decide (a<b):=by
 cases a<;>cases b<;>simp only[xd]
 ·rename_i m n;have e1:Int.ofNat m=(m:Int):=rfl;have e2:Int.ofNat n=(n:Int):=rfl;rw[sJ];simp only[bT,Nat.blt,Nat.ble_eq];constructor<;>intro h<;>omega
 ·rename_i m n;simp;omega
 ·rename_i m n;simp;omega
 ·rename_i m n;rw[sJ];simp only[bT,Nat.blt,Nat.ble_eq];constructor<;>intro h<;>omega
theorem PX(a b:Int):Dt a b=decide (a<=b):=by unfold Dt;rw[DL];rw[sJ];simp
theorem G2{a b:IntKind}(h:Nat.beq (kn a) (kn b)=true):a=b:=by cases a<;>cases b<;>first | rfl | (exact absurd h (by decide))
section ops
variable {P:Program}{ty:Ty}{W:Nat->Code->AC->Prop}{η:Env}{T:Tr V}{H H':Hp}{n n':K}{w:World}{tmps:Array Value}{v:V}
def uJ(P:Program)(w:World)(η:Env)(s:Sem Value)(v:V):Prop:=bA P s w λy w'=>aC η v y/\w'=w
theorem uJ.ok{s:Sem Value}{v:V}(hH:bM W η H n w)(h:uJ P w η s v):bA P s w λy w'=>∃η',Trans W η H n w η' H n w'/\aC η' v y:=
 h.mono λ_ _ ⟨a,b⟩=>⟨η,by subst b;exact .refl hH,a⟩
theorem jG{x:Value}{v:V}(h:aC η v x):uJ P w η (pure x) v:=an ⟨h,rfl⟩
def DM(op:BinOp)(k:IntKind)(x y:Int):Sem Value:=
 match op with
 | .add | .sub | .mul=>Op.intArith op k x y
 | .quo | .rem=>Op.intDiv op k x y
 | .and | .or | .xor | .andNot=>Op.intBits op k x y
 | _=>Op.intCmp op x y
theorem PY{op:BinOp}{k:IntKind}{x y:Int}{v:V}(h:oD op k x y=some v)(fm:op≠.shl/\op≠.shr):
 uJ P w η (DM op k x y) v:=by
 cases op<;>simp only[oD]at h<;>first | (injection h with h;subst h) | skip
 case add=>rw[sV];exact jG (.i _ _)
 case sub=>rw[sV];exact jG (.i _ _)
 case mul=>rw[sV];exact jG (.i _ _)
 case quo=>
  cases hz:sg y 0 with
  | true=>rw[hz]at h;cases h
  | false=>
   rw[hz]at h;injection h with h;subst h;rw[BJ]at hz;have:¬ y=0:=by simpa using hz
   simp only[DM,Op.intDiv,this,if_false];rw[sV];exact jG (.i _ _)
 case rem=>
  cases hz:sg y 0 with
  | true=>rw[hz]at h;cases h
  | false=>
   rw[hz]at h;injection h with h;subst h;rw[BJ]at hz;have:¬ y=0:=by simpa using hz
   simp only[DM,Op.intDiv,this,if_false];exact jG (.i _ _)
 case and=>rw[sV];exact jG (.i _ _)
 case or=>rw[sV];exact jG (.i _ _)
 case xor=>rw[sV];exact jG (.i _ _)
 case andNot=>rw[sV];exact jG (.i _ _)
 case eql=>rw[BJ];exact jG (.b _)
 case neq=>rw[BJ];exact jG (.b _)
 case lss=>rw[DL];exact jG (.b _)
 case leq=>rw[PX];exact jG (.b _)
 case gtr=>rw[DL];exact jG (.b _)
 case geq=>rw[PX];exact jG (.b _)
 case shl=>exact absurd rfl fm.1
 case shr=>exact absurd rfl fm.2
theorem PZ{op:BinOp}{k yk:IntKind}{x y:Int}{v:V}(h:J8 op k x y=some v):uJ P w η (Op.shift op k x yk y) v:=by
 unfold J8 at h;split at h
 ·cases h
 ·rename_i m;have xS:(bif Nat.ble m k.bits then m else k.bits)=min (Int.ofNat m).toNat k.bits:=by
   cases hb:Nat.ble m k.bits with
   | true=>have:=nJ hb;simp;omega
   | false=>
    have:¬ m<=k.bits:=λh=>by rw[jE h]at hb;cases hb
    simp;omega
  have aaC:¬ (Int.ofNat m<0):=by have:=sI m;simp;
  rw[xS]at h;unfold Op.shift;simp only[aaC,if_false];have hp:∀q:Nat,(Int.ofNat (Nat.pow 2 q))=(2:Int) ^ q:=λq=>by show((2 ^ q:Nat):Int)=_;simp
  cases op<;>simp only at h<;>first | (cases h;done) | (injection h with h;subst h)
  ·rw[sV,hp];exact jG (.i _ _)
  ·rw[hp];exact jG (.i _ _)
theorem aaD(l n:Nat):(strOf l n).toList=cH l n:=by rw[Go.ByteArray.toList_eq];simp[strOf]
theorem P2{l m l' m':Nat}(h:m<256 ^ l)(h':m'<256 ^ l'):((cH l m)==(cH l' m'))=(Nat.beq l l'&&Nat.beq m m'):=by
 rw[sJ];simp only[beq_iff_eq,bG,Nat.beq_eq];constructor
 ·intro e;have hl:l=l':=by have:=congrArg List.length e;simpa[rG]using this
  subst hl;exact⟨rfl,Z1 h h' e⟩
 ·rintro⟨rfl,rfl⟩;rfl
theorem aaE(l m l' m':Nat):Op.bytesLess (cH l m) (cH l' m')=slt l m l' m':=by
 induction l generalizing m l' m' with
 | zero=>
  cases l' with
  | zero=>rfl
  | succ l'=>rfl
 | succ l ih=>
  cases l' with
  | zero=>rfl
  | succ l'=>
   simp only[cH,Op.bytesLess,slt];rw[ih];have e1:(UInt8.ofNat (m % 256)<UInt8.ofNat (m' % 256))↔m % 256<m' % 256:=by rw[UInt8.lt_iff_toNat_lt];simp
   have e2:(UInt8.ofNat (m % 256)=UInt8.ofNat (m' % 256))↔m % 256=m' % 256:=by
    constructor
    ·intro e;have:=congrArg UInt8.toNat e;simpa using this
    ·intro e;rw[e]
   show(decide _||(_==_&&slt l (m / 256) l' (m' / 256)))=(bif Nat.blt (m % 256) (m' % 256) then true else bif Nat.beq (m % 256) (m' % 256) then slt l (m / 256) l' (m' / 256) else false)
   by_cases h1:m % 256<m' % 256
   ·have:Nat.blt (m % 256) (m' % 256)=true:=jE h1;rw[this,qo (e1.2 h1)];rfl
   ·have:Nat.blt (m % 256) (m' % 256)=false:=by
     cases hb:Nat.blt (m % 256) (m' % 256) with
     | false=>rfl
     | true=>exact absurd (nJ hb) h1
    rw[this,gj (λh=>h1 (e1.1 h))];by_cases h2:m % 256=m' % 256
    ·rw[h2];simp
    ·have:Nat.beq (m % 256) (m' % 256)=false:=by
      cases hb:Nat.beq (m % 256) (m' % 256) with
      | false=>rfl
      | true=>exact absurd (cZ hb) h2
     rw[this];have:(UInt8.ofNat (m % 256)==UInt8.ofNat (m' % 256))=false:=by rw[beq_eq_false_iff_ne];exact λe=>h2 (e2.1 e)
     rw[this];rfl
theorem aaF{op:BinOp}{l m l' m':Nat}{v:V}(hm:m<256 ^ l)(Kx:m'<256 ^ l')(h:GK op l m l' m'=some v):uJ P w η (Op.stringOp op (strOf l m) (strOf l' m')) v:=by
 unfold Op.stringOp;simp only[aaD,P2 hm Kx,aaE];cases op<;>simp only[GK]at h<;>first | (cases h;done) | skip
 case add=>
  cases hb:Nat.ble (Nat.add l l') 9223372036854775807 with
  | false=>rw[hb]at h;cases h
  | true=>
   rw[hb]at h;injection h with h;subst h;have hle:l+l'<=9223372036854775807:=nJ hb;have DN:IntKind.i64.max=9223372036854775807:=rfl;have:¬ (((strOf l m).size+(strOf l' m').size:Nat):Int)>IntKind.i64.max:=by rw[uI,uI,DN];omega
   simp only[this,if_false];have e:strOf l m++strOf l' m'=strOf (l+l') (m+m'*256 ^ l):=by apply ByteArray.ext;rw[ByteArray.data_append];apply j9;show(_++_:Array UInt8).toList=_;simp[strOf,Z0 l m l' m' hm]
   rw[e];refine jG (.s _ _ ?_);show m+m'*256 ^ l<256 ^ (l+l');rw[Nat.pow_add];have h1:m'*256 ^ l<=(256 ^ l' - 1)*256 ^ l:=iw _ (by omega);have mR:0<256 ^ l':=Nat.pow_pos (by omega);have h2:(256 ^ l' - 1)*256 ^ l=256 ^ l'*256 ^ l - 256 ^ l:=by rw[Nat.sub_mul,Nat.one_mul]
   have h3:256 ^ l<=256 ^ l'*256 ^ l:=Nat.le_mul_of_pos_left _ mR;rw[dY (256 ^ l) (256 ^ l')];omega
 all_goals (injection h with h;subst h;exact jG (.b _))
end ops
end
end Go.Ev
namespace Go.Ev.X
open Go Go.Ev
section
abbrev Env:=List (K×V)
def lk:Env->K->Option V
 | [],_=>none
 | (k,v)::l,x=>bif K.beq k x then some v else lk l x
def Le(E:Env)(T:Tr V):Prop:=∀k v,lk E k=some v->T.get k=some v
def ge(E:Env):aJ->Option V
 | .t k=>lk E k
 | .c v=>some v
def vZ(E:Env):List aJ->Option (List V)
 | []=>some []
 | x::l=>match ge E x,vZ E l with
  | some v,some vs=>some (v::vs)
  | _,_=>none
theorem Le.nil(T:Tr V):Le [] T:=λ_ _ h=>by cases h
theorem Le.put{E:Env}{T:Tr V}(h:Le E T)(k:K)(v:V):Le ((k,v)::E) (T.put (some v) k):=by
 intro x w hw;rw[Tr.gb];simp only[lk]at hw;cases hb:K.beq k x with
 | true=>rw[hb]at hw;rw[az (K.beq_eq hb).symm];exact hw
 | false=>
  rw[hb]at hw;have:x≠k:=λe=>by rw[e,K.beq_refl]at hb;cases hb
  rw[ai this];exact h _ _ hw
theorem Le.ge{E:Env}{T:Tr V}(h:Le E T){x:aJ}{v:V}(hx:ge E x=some v):aI T x=some v:=by
 cases x with
 | t k=>exact h _ _ hx
 | c w=>exact hx
theorem Le.vZ{E:Env}{T:Tr V}(h:Le E T):∀{l:List aJ} {vs:List V},X.vZ E l=some vs->fP T l=some vs:=by
 intro l
 induction l with
 | nil=>intro vs hv;exact hv
 | cons x l ih=>
  intro vs hv;simp only[X.vZ]at hv;split at hv
  ·rename_i v ws h1 h2;simp only[fP,h.ge h1,ih h2];exact hv
  ·cases hv
def jq(d:Option K)(v:V)(E:Env):Env:=
 match d with
 | some k=>(k,v)::E
 | none=>E
theorem Le.jq{E:Env}{T:Tr V}(h:Le E T)(d:Option K)(v:V):Le (X.jq d v E) (eA d (some v) T):=by
 cases d with
 | none=>exact h
 | some k=>exact h.put k v
def da:Env->Env->Prop
 | [],_=>True
 | (k,v)::l,E=>lk E k=some v/\da l E
theorem Le.sub{E E':Env}{T:Tr V}(h:Le E T):da E' E->Le E' T:=by
 induction E' with
 | nil=>intro _;exact Le.nil T
 | cons p E' ih=>
  intro hs k v hv;obtain⟨a,b⟩:=p;simp only[lk]at hv;cases hb:K.beq a k with
  | true=>rw[hb]at hv;cases hv;rw[←K.beq_eq hb];exact h _ _ hs.1
  | false=>rw[hb]at hv;exact ih hs.2 _ _ hv
abbrev Hf:=K->Option O
def hp(h:Hf)(b:K)(o:Option O):Hf:=λk=>if k=b then o else h k
theorem jr(H:Hp)(b:K)(o:Option O):(H.put o b).get=hp H.get b o:=by funext k;rw[Tr.gb];rfl
theorem gw(h:Hf)(b:K)(o:Option O):hp h b o b=o:=by simp[hp]
theorem mh(h:Hf){b k:K}(o:Option O)(hk:k≠b):hp h b o k=h k:=by simp[hp,hk]
def ja(h:Hf)(b:K):Option (List V):=
 match h b with
 | some o=>o.row
 | none=>none
def cD(h:Hf)(agg:Bool)(sz:Nat):V->Option V
 | .p b o=>match ja h b with
  | some l=>bif agg then (match dt l o sz with | some l'=>some (.a l') | none=>none) else nth l o
  | none=>none
 | _=>none
theorem P3{H:Hp}{h:Hf}(e:H.get=h)(b:K):rowAt H b=ja h b:=by subst e;rfl
theorem G3{H:Hp}{h:Hf}(e:H.get=h)(agg:Bool)(sz:Nat)(a:V):vF H agg sz a=cD h agg sz a:=by subst e;rfl
section
variable (C:Nat->Option bP)
def gm(j:FR)(H:Hp)(n:K)(r:R):Prop:=∃f0,∀f,f0<=f->ev C f j H n=some r
def aaG(l:List AO)(T:Tr V)(H:Hp)(n:K)(r:R):Prop:=∃f0,∀f,f0<=f->gv (ev C f) l T H n=some r
def SO(op:A)(E:Env)(h:Hf)(n:K)(k:V->Hf->K->Prop):Prop:=
 ∀T H,Le E T->H.get=h->∃v H' n',(∃f0,∀f,f0<=f->oper (ev C f) op T H n=some (v,H',n'))/\k v H'.get n'
def WO(l:List AO)(E:Env)(h:Hf)(n:K)(Q:Env->Hf->K->Prop):Prop:=
 ∀T H,Le E T->H.get=h->∃T' H' n' E',aaG C l T H n ⟨.normal,T',.q,H',n'⟩/\Le E' T'/\Q E' H'.get n'
def WC(c:AC)(E:Env)(h:Hf)(n:K)(Q:Ex->Env->Hf->K->Prop):Prop:=
 ∀T H,Le E T->H.get=h->∃r E',gm C (.code c T) H n r/\Le E' r.T/\Q r.ex E' r.H.get r.n
def τ(f:V)(l:List V)(h:Hf)(n:K)(Q:V->Hf->K->Prop):Prop:=
 ∀H,H.get=h->∃v H' n',gm C (.call f l) H n ⟨.normal,.e,v,H',n'⟩/\Q v H'.get n'
end
section
variable {C:Nat->Option bP}{E E':Env}{h:Hf}{n:K}{Q Q':Ex->Env->Hf->K->Prop}{q q':Env->Hf->K->Prop}
theorem gm.step{j:FR}{H:Hp}{r:R}(h:∃f0,∀f,f0<=f->ca C (ev C f) j H n=some r):gm C j H n r:=by
 obtain⟨f0,h⟩:=h;refine⟨f0+1,λf hf=>?_⟩;cases f with
 | zero=>omega
 | succ f=>exact h f (by omega)
theorem G4{c:AC}(hw:WC C c E h n Q)(hq:∀ex E h n,Q ex E h n->Q' ex E h n):WC C c E h n Q':=by intro T H hT hH;obtain⟨r,E',h1,h2,h3⟩:=hw T H hT hH;exact⟨r,E',h1,h2,hq _ _ _ _ h3⟩
theorem dB{c:AC}(hs:da E' E)(hw:WC C c E' h n Q):WC C c E h n Q:=λT H hT hH=>hw T H (hT.sub hs) hH
theorem ae{c:AC}(hw:WC C c E' h n Q)(hs:da E' E):WC C c E h n Q:=dB hs hw
theorem τ.mono{f:V}{l:List V}{q q':V->Hf->K->Prop}(hw:τ C f l h n q)(hq:∀v h n,q v h n->q' v h n):τ C f l h n q':=by intro H hH;obtain⟨v,H',n',h1,h2⟩:=hw H hH;exact⟨v,H',n',h1,hq _ _ _ h2⟩
theorem ao(hq:Q .normal E h n):WC C .skip E h n Q:=λT H hT hH=>by subst hH;exact⟨⟨.normal,T,.q,H,n⟩,E,gm.step ⟨0,λf _=>rfl⟩,hT,hq⟩
theorem bW{id:Nat}(hq:Q (.exit id) E h n):WC C (.exit id) E h n Q:=λT H hT hH=>by subst hH;exact⟨⟨.exit id,T,.q,H,n⟩,E,gm.step ⟨0,λf _=>rfl⟩,hT,hq⟩
theorem aj(hq:Q .ret E h n):WC C .ret E h n Q:=λT H hT hH=>by subst hH;exact⟨⟨.ret,T,.q,H,n⟩,E,gm.step ⟨0,λf _=>rfl⟩,hT,hq⟩
theorem Ky{c:AC}(hw:WC C c E h n Q):WC C (.scope c) E h n Q:=by intro T H hT hH;obtain⟨r,E',⟨f0,h1⟩,h2,h3⟩:=hw T H hT hH;exact⟨r,E',gm.step ⟨f0,λf hf=>h1 f hf⟩,h2,h3⟩
theorem aR{l:List AO}(hw:WO C l E h n (λE h n=>Q .normal E h n)):WC C (.reg l) E h n Q:=by intro T H hT hH;obtain⟨T',H',n',E',⟨f0,h1⟩,h2,h3⟩:=hw T H hT hH;exact⟨⟨.normal,T',.q,H',n'⟩,E',gm.step ⟨f0,λf hf=>h1 f hf⟩,h2,h3⟩
def sq(C:Nat->Option bP)(b:AC)(Q:Ex->Env->Hf->K->Prop):Ex->Env->Hf->K->Prop
 | .normal,E,h,n=>WC C b E h n Q
 | .exit i,E,h,n=>Q (.exit i) E h n
 | .ret,E,h,n=>Q .ret E h n
 | .panic v,E,h,n=>Q (.panic v) E h n
theorem ν{a b:AC}(hw:WC C a E h n (sq C b Q)):WC C (.seq a b) E h n Q:=by
 intro T H hT hH;obtain⟨r,E',⟨f0,h1⟩,h2,h3⟩:=hw T H hT hH;obtain⟨ex,T',v,H',n'⟩:=r;cases ex with
 | normal=>
  obtain⟨r,Yy,⟨f1,h4⟩,h5,h6⟩:=h3 T' H' h2 rfl;refine⟨r,Yy,gm.step ⟨max f0 f1,λf hf=>?_⟩,h5,h6⟩;simp only[ca];rw[h1 f (by omega)];exact h4 f (by omega)
 | exit i=>
  refine⟨_,E',gm.step ⟨f0,λf hf=>?_⟩,h2,h3⟩;simp only[ca];rw[h1 f hf]
 | ret=>
  refine⟨_,E',gm.step ⟨f0,λf hf=>?_⟩,h2,h3⟩;simp only[ca];rw[h1 f hf]
 | panic u=>
  refine⟨_,E',gm.step ⟨f0,λf hf=>?_⟩,h2,h3⟩;simp only[ca];rw[h1 f hf]
theorem θ{l:List AO}{b:AC}(hw:WO C l E h n (λE h n=>WC C b E h n Q)):WC C (.seq (.reg l) b) E h n Q:=ν (aR hw)
theorem di{c:aJ}{a b:AC}{x:Bool}(hc:ge E c=some (.b x))(ht:x=true->WC C a E h n Q)(hf:x=false->WC C b E h n Q):WC C (.cond c a b) E h n Q:=by
 intro T H hT hH;cases x with
 | true=>
  obtain⟨r,E',⟨f0,h1⟩,h2,h3⟩:=ht rfl T H hT hH;exact⟨r,E',gm.step ⟨f0,λf hf=>by simp only[ca,hT.ge hc];exact h1 f hf⟩,h2,h3⟩
 | false=>
  obtain⟨r,E',⟨f0,h1⟩,h2,h3⟩:=hf rfl T H hT hH;exact⟨r,E',gm.step ⟨f0,λf hf=>by simp only[ca,hT.ge hc];exact h1 f hf⟩,h2,h3⟩
theorem aD{c:aJ}{a b:AC}{x:Bool}(hc:ge E c=some (.b x))(hx:x=true)(ht:WC C a E h n Q):WC C (.cond c a b) E h n Q:=
 di hc (λ_=>ht) (λe=>by rw[hx]at e;cases e)
theorem aE{c:aJ}{a b:AC}{x:Bool}(hc:ge E c=some (.b x))(hx:x=false)(ht:WC C b E h n Q):WC C (.cond c a b) E h n Q:=
 di hc (λe=>by rw[hx]at e;cases e) (λ_=>ht)
def blk(id:Nat)(Q:Ex->Env->Hf->K->Prop):Ex->Env->Hf->K->Prop
 | .exit i,E,h,n=>bif Nat.beq id i then Q .normal E h n else Q (.exit i) E h n
 | .normal,E,h,n=>Q .normal E h n
 | .ret,E,h,n=>Q .ret E h n
 | .panic v,E,h,n=>Q (.panic v) E h n
theorem aK{id:Nat}{c:AC}(hw:WC C c E h n (blk id Q)):WC C (.block id c) E h n Q:=by
 intro T H hT hH;obtain⟨r,E',⟨f0,h1⟩,h2,h3⟩:=hw T H hT hH;obtain⟨ex,T',v,H',n'⟩:=r;cases ex with
 | exit i=>
  cases hb:Nat.beq id i with
  | true=>
   refine⟨⟨.normal,T',v,H',n'⟩,E',gm.step ⟨f0,λf hf=>?_⟩,h2,?_⟩
   ·simp only[ca];rw[h1 f hf];simp only[hb,cond_true]
   ·simp only[blk,hb,cond_true]at h3;exact h3
  | false=>
   refine⟨⟨.exit i,T',v,H',n'⟩,E',gm.step ⟨f0,λf hf=>?_⟩,h2,?_⟩
   ·simp only[ca];rw[h1 f hf];simp only[hb,cond_false]
   ·simp only[blk,hb,cond_false]at h3;exact h3
 | normal=>
  refine⟨_,E',gm.step ⟨f0,λf hf=>?_⟩,h2,h3⟩;simp only[ca];rw[h1 f hf]
 | ret=>
  refine⟨_,E',gm.step ⟨f0,λf hf=>?_⟩,h2,h3⟩;simp only[ca];rw[h1 f hf]
 | panic u=>
  refine⟨_,E',gm.step ⟨f0,λf hf=>?_⟩,h2,h3⟩;simp only[ca];rw[h1 f hf]
theorem aQ{c:AC}(hw:WC C c E h n (sq C (.loop c) Q)):WC C (.loop c) E h n Q:=by
 intro T H hT hH;obtain⟨r,E',⟨f0,h1⟩,h2,h3⟩:=hw T H hT hH;obtain⟨ex,T',v,H',n'⟩:=r;cases ex with
 | normal=>
  obtain⟨r,Yy,⟨f1,h4⟩,h5,h6⟩:=h3 T' H' h2 rfl;refine⟨r,Yy,gm.step ⟨max f0 f1,λf hf=>?_⟩,h5,h6⟩;simp only[ca];rw[h1 f (by omega)];exact h4 f (by omega)
 | exit i=>
  refine⟨_,E',gm.step ⟨f0,λf hf=>?_⟩,h2,h3⟩;simp only[ca];rw[h1 f hf]
 | ret=>
  refine⟨_,E',gm.step ⟨f0,λf hf=>?_⟩,h2,h3⟩;simp only[ca];rw[h1 f hf]
 | panic u=>
  refine⟨_,E',gm.step ⟨f0,λf hf=>?_⟩,h2,h3⟩;simp only[ca];rw[h1 f hf]
theorem ε(hq:q E h n):WO C [] E h n q:=λT H hT hH=>by subst hH;exact⟨T,H,n,E,⟨0,λf _=>rfl⟩,hT,hq⟩
theorem aaH{ih:eh}{op:A}{T:Tr V}{H:Hp}{v:V}{H':Hp}{n':K}(ho:oper ih op T H n=some (v,H',n')):∃T',eN ih op T H n=some ⟨.normal,T',v,H',n'⟩:=by
 unfold oper at ho;split at ho
 ·rename_i T' v1 H1 n1 he;cases ho;exact⟨T',he⟩
 ·cases ho
theorem cX{d:Option K}{op:A}{ah:Nat}{l:List AO}(hs:SO C op E h n (λv h' n'=>WO C l (jq d v E) h' n' q)):WO C (⟨d,op,none,ah⟩::l) E h n q:=by intro T H hT hH;obtain⟨v,H',n',⟨f0,h1⟩,h2⟩:=hs T H hT hH;obtain⟨T',qu,oe,E',⟨f1,h3⟩,h4,h5⟩:=h2 _ H' (hT.jq d v) U;refine⟨T',qu,oe,E',⟨max f0 f1,λf hf=>?_⟩,h4,h5⟩;obtain⟨T1,h6⟩:=aaH (h1 f (by omega));simp only[gv,want,h6];exact h3 f (by omega)
theorem κ{d:Option K}{op:A}{ah:Nat}{l:List AO}{g:K}{w x:Bool}(hg:lk E g=some (.b x))(hx:x=w)(hs:WO C (⟨d,op,none,ah⟩::l) E h n q):WO C (⟨d,op,some (g,w),ah⟩::l) E h n q:=by intro T H hT hH;obtain⟨T',H',n',E',⟨f0,h1⟩,h2,h3⟩:=hs T H hT hH;refine⟨T',H',n',E',⟨f0,λf hf=>?_⟩,h2,h3⟩;have:=h1 f hf;simp only[gv,want,hT _ _ hg]at this ⊢;subst hx;cases x<;>exact this
theorem σ{d:Option K}{op:A}{ah:Nat}{l:List AO}{g:K}{w x:Bool}(hg:lk E g=some (.b x))(hx:x=!w)(hs:WO C l (jq d (.u []) E) h n q):WO C (⟨d,op,some (g,w),ah⟩::l) E h n q:=by intro T H hT hH;obtain⟨T',H',n',E',⟨f0,h1⟩,h2,h3⟩:=hs _ H (hT.jq d _) hH;refine⟨T',H',n',E',⟨f0,λf hf=>?_⟩,h2,h3⟩;have:=h1 f hf;subst hx;simp only[gv,want,hT _ _ hg];cases w<;>exact this
theorem eX{d:Option K}{op:A}{ah:Nat}{l:List AO}{g:K}{w:Bool}(hg:lk E g=some (.u []))(hs:WO C l (jq d (.u []) E) h n q):WO C (⟨d,op,some (g,w),ah⟩::l) E h n q:=by intro T H hT hH;obtain⟨T',H',n',E',⟨f0,h1⟩,h2,h3⟩:=hs _ H (hT.jq d _) hH;refine⟨T',H',n',E',⟨f0,λf hf=>?_⟩,h2,h3⟩;have:=h1 f hf;simp only[gv,want,hT _ _ hg];exact this
def mS:List K->List V->Env->Option Env
 | _,[],E=>some E
 | k::ks,v::vs,E=>mS ks vs ((k,v)::E)
 | [],_::_,_=>none
theorem P4:∀{ks:List K} {vs:List V} {E E':Env} {T:Tr V},Le E T->mS ks vs E=some E'->∃T',binds ks vs T=some T'/\Le E' T':=by
 intro ks vs
 induction vs generalizing ks with
 | nil=>intro E E' T hT he;cases ks<;>(cases he;exact⟨T,rfl,hT⟩)
 | cons v vs ih=>
  intro E E' T hT he;cases ks with
  | nil=>cases he
  | cons k ks=>exact ih (hT.put k v) he
def wa(E:Env)(h:Hf):AR->Option V
 | .t k=>lk E k
 | .cell k agg sz=>match lk E k with
  | some a=>cD h agg sz a
  | none=>none
def sW(E:Env)(h:Hf):List AR->Option (List V)
 | []=>some []
 | r::l=>match wa E h r,sW E h l with
  | some v,some vs=>some (v::vs)
  | _,_=>none
def oK(l:List AR)(E:Env)(h:Hf):Option V:=
 match sW E h l with
 | some [v]=>some v
 | some vs=>some (.u vs)
 | none=>none
theorem aaI{T:Tr V}{H:Hp}(hT:Le E T)(hH:H.get=h){r:AR}{v:V}(hv:wa E h r=some v):result T H r=some v:=by
 cases r with
 | t k=>exact hT _ _ hv
 | cell k agg sz=>
  simp only[wa]at hv;split at hv
  ·rename_i a ha;simp only[result,hT _ _ ha,G3 hH];exact hv
  ·cases hv
theorem aaJ{T:Tr V}{H:Hp}(hT:Le E T)(hH:H.get=h):∀{l:List AR} {vs:List V},sW E h l=some vs->xG T H l=some vs:=by
 intro l
 induction l with
 | nil=>intro vs hv;exact hv
 | cons r l ih=>
  intro vs hv;simp only[sW]at hv;split at hv
  ·rename_i v ws h1 h2;simp only[xG,aaI hT hH h1,ih h2];exact hv
  ·cases hv
theorem P5{T:Tr V}{H:Hp}(hT:Le E T)(hH:H.get=h){l:List AR}{v:V}(hv:oK l E h=some v):rD l T H=some v:=by
 unfold oK at hv;unfold rD;cases hl:sW E h l with
 | none=>rw[hl]at hv;cases hv
 | some vs=>rw[hl]at hv;rw[aaJ hT hH hl];exact hv
def fq(res:List AR)(Q:V->Hf->K->Prop):Ex->Env->Hf->K->Prop
 | .normal,E,h,n=>∃v,oK res E h=some v/\Q v h n
 | .ret,E,h,n=>∃v,oK res E h=some v/\Q v h n
 | _,_,_,_=>False
theorem τ.go{g:Nat}{a c l:List V}{af:AF}{Q:V->Hf->K->Prop}(hC:C g=some (.go af))(hE:mS af.jT (a++(l++c)) []=some E)(hw:WC C af.body E h n (fq af.res Q)):τ C (.f g a c) l h n Q:=by
 intro H hH;obtain⟨T,hT,hle⟩:=P4 (Le.nil .e) hE;obtain⟨r,E',⟨f0,h1⟩,h2,h3⟩:=hw T H hle hH;obtain⟨ex,T',v,H',n'⟩:=r;cases ex with
 | normal=>
  obtain⟨v,h4,h5⟩:=h3;refine⟨v,H',n',gm.step ⟨f0,λf hf=>?_⟩,h5⟩;simp only[ca,hC,hT];rw[h1 f hf];simp only[P5 h2 rfl h4]
 | ret=>
  obtain⟨v,h4,h5⟩:=h3;refine⟨v,H',n',gm.step ⟨f0,λf hf=>?_⟩,h5⟩;simp only[ca,hC,hT];rw[h1 f hf];simp only[P5 h2 rfl h4]
 | exit i=>exact h3.elim
 | panic v=>exact h3.elim
theorem τ.pm{g:Nat}{a c l:List V}{p:Pm}{Q:V->Hf->K->Prop}(hC:C g=some (.pm p))(hp:∀H:Hp,H.get=h->∃v H' n',Ev.pm p (a++(l++c)) H n=some (v,H',n')/\Q v H'.get n'):τ C (.f g a c) l h n Q:=by intro H hH;obtain⟨v,H',n',h1,h2⟩:=hp H hH;exact⟨v,H',n',gm.step ⟨0,λf _=>by simp only[ca,hC,h1]⟩,h2⟩
end
end
section
abbrev st(bs:List UInt8):V:=.s bs.length (bR bs)
theorem aaK{a b:List UInt8}(hl:a.length=b.length)(h:bR a=bR b):a=b:=by rw[←Ki a,←Ki b,hl,h]
theorem dD(a b:Nat):Nat.beq a b=decide (a=b):=by
 cases h:Nat.beq a b with
 | true=>rw[cZ h];simp
 | false=>have:=Nat.ne_of_beq_eq_false h;simp[this]
theorem jV(a b:Nat):Nat.ble a b=decide (a<=b):=by
 cases h:Nat.ble a b with
 | true=>have:=nJ h;simp[this]
 | false=>
  have:¬ a<=b:=λe=>by rw[jE e]at h;cases h
  simp[this]
theorem gf(a b:Nat):Nat.blt a b=decide (a<b):=by show Nat.ble (a+1) b=_;rw[jV];rfl
theorem G5(a b:List UInt8):(Nat.beq a.length b.length&&Nat.beq (bR a) (bR b))=decide (a=b):=by
 rw[dD,dD];by_cases h:a=b
 ·subst h;simp
 ·by_cases hl:a.length=b.length
  ·have:bR a≠bR b:=λe=>h (aaK hl e);simp[hl,this,h]
  ·simp[hl,h]
theorem Kz(bs:List UInt8):∀i,bR bs / 256 ^ i=bR (bs.drop i):=by
 intro i
 induction i generalizing bs with
 | zero=>simp
 | succ i ih=>
  cases bs with
  | nil=>simp[bR]
  | cons b l=>
   rw[gW,dY,←Dh];have hb:b.toNat<256:=b.toNat_lt;have:bR (b::l) / 256=bR l:=by simp only[bR];omega
   rw[this,ih];rfl
theorem aaL(bs:List UInt8):∀k,bR bs % 256 ^ k=bR (bs.take k):=by
 intro k
 induction k generalizing bs with
 | zero=>simp[bR,Nat.mod_one]
 | succ k ih=>
  cases bs with
  | nil=>simp[bR]
  | cons b l=>
   have hb:b.toNat<256:=b.toNat_lt;simp only[sG,bR];rw[←ih,gW,dY (256 ^ k) 256,Nat.mod_mul];have h1:(b.toNat+256*bR l) % 256=b.toNat:=by omega
   have h2:(b.toNat+256*bR l) / 256=bR l:=by omega
   rw[h1,h2]
theorem DO(bs:List UInt8){i:Nat}(h:i<bs.length):Jj (bR bs) i=bs[i].toNat:=by show(bR bs / 256 ^ i) % 256=_;rw[Kz,gi h];have hb:bs[i].toNat<256:=bs[i].toNat_lt;simp only[bR];omega
theorem aaM(bs:List UInt8)(a b:Nat):Du (bR bs) a b=bR ((bs.drop a).take (b - a)):=by show(bR bs / 256 ^ a) % (256 ^ (b - a))=_;rw[Kz,aaL]
def oL:IntKind->Int->Prop
 | .i64,n=>-9223372036854775808<=n/\n<=9223372036854775807
 | .u64,n=>0<=n/\n<=18446744073709551615
 | .u32,n=>0<=n/\n<=4294967295
 | .i32,n=>-2147483648<=n/\n<=2147483647
 | .u8,n=>0<=n/\n<=255
 | _,_=>False
theorem DP{k:IntKind}{n:Int}(h:oL k n):wr k n=n:=by
 have:fits k n=true:=by cases k<;>cases n<;>simp only[oL,Int.ofNat_eq_natCast]at h<;>simp only[fits,jV]<;>simp<;>omega
 simp[wr,this]
theorem iC(a b:Int):sg a b=decide (a=b):=by cases a<;>cases b<;>simp only[sg,dD,Int.ofNat_eq_natCast]<;>simp<;>omega
theorem G6(a b:Int):xd a b=decide (a<b):=by cases a<;>cases b<;>simp only[xd,gf,Int.ofNat_eq_natCast]<;>simp<;>omega
theorem P6(a b:Int):Dt a b=decide (a<=b):=by rw[Dt,G6];simp only[←decide_not];congr 1;simp;
theorem jW(k:IntKind):Nat.beq (kn k) (kn k)=true:=by cases k<;>rfl
section
variable {C:Nat->Option bP}{E:Env}{h:Hf}{n:K}{k:V->Hf->K->Prop}
theorem qw{op:A}(bC:∀ih T H n,eN ih op T H n=match simple op T H n with | some (v,H,n)=>some ⟨.normal,.e,v,H,n⟩ | none=>none)
 (hs:∀T H,Le E T->H.get=h->∃v H' n',simple op T H n=some (v,H',n')/\k v H'.get n'):SO C op E h n k:=by
 intro T H hT hH;obtain⟨v,H',n',h1,h2⟩:=hs T H hT hH;refine⟨v,H',n',⟨0,λf _=>?_⟩,h2⟩;unfold oper;rw[bC,h1]
theorem gn{op:A}{v:V}(bC:∀ih T H n,eN ih op T H n=match simple op T H n with | some (v,H,n)=>some ⟨.normal,.e,v,H,n⟩ | none=>none)
 (hs:∀T H,Le E T->H.get=h->simple op T H n=some (v,H,n))(hk:k v h n):SO C op E h n k:=
 qw bC λT H hT hH=>⟨v,H,n,hs T H hT hH,by rw[hH];exact hk⟩
theorem P7{x:aJ}{v:V}(hx:ge E x=some v)(hk:k v h n):SO C (.mv x) E h n k:=
 gn (λ_ _ _ _=>rfl) (λT H hT hH=>by simp only[simple,hT.ge hx,eg]) hk
theorem P8{c a b:aJ}{x:Bool}{v:V}(hc:ge E c=some (.b x))(hx:x=true)(ha:ge E a=some v)(hk:k v h n):SO C (.pick c a b) E h n k:=
 gn (λ_ _ _ _=>rfl) (λT H hT hH=>by subst hx;simp only[simple,hT.ge hc,cond_true,hT.ge ha,eg]) hk
theorem P9{c a b:aJ}{x:Bool}{v:V}(hc:ge E c=some (.b x))(hx:x=false)(ha:ge E b=some v)(hk:k v h n):SO C (.pick c a b) E h n k:=
 gn (λ_ _ _ _=>rfl) (λT H hT hH=>by subst hx;simp only[simple,hT.ge hc,cond_false,hT.ge ha,eg]) hk
theorem mT{op:BinOp}{q:eH}{x y:aJ}{a b v:V}(hx:ge E x=some a)(hy:ge E y=some b)(hv:oE op q a b=some v)(hk:k v h n):SO C (.bin op q x y) E h n k:=
 gn (λ_ _ _ _=>rfl) (λT H hT hH=>by simp only[simple,hT.ge hx,hT.ge hy,hv,eg]) hk
section
variable {q:eH}{x y:aJ}{i:IntKind}{a b:Int}
theorem sX{op:BinOp}(h1:op≠.shl)(h2:op≠.shr):oE op q (.i i a) (.i i b)=oD op i a b:=by cases op<;>first | contradiction | (simp only[oE,jW,cond_true])
theorem Qa(hx:ge E x=some (.i i a))(hy:ge E y=some (.i i b))(hr:oL i (a+b))(hk:k (.i i (a+b)) h n):SO C (.bin .add q x y) E h n k:=
 mT hx hy (by rw[sX (by simp) (by simp)];show some (V.i i (wr i (a+b)))=_;rw[DP hr]) hk
theorem Qb(hx:ge E x=some (.i i a))(hy:ge E y=some (.i i b))(hr:oL i (a - b))(hk:k (.i i (a - b)) h n):SO C (.bin .sub q x y) E h n k:=
 mT hx hy (by rw[sX (by simp) (by simp)];show some (V.i i (wr i (a - b)))=_;rw[DP hr]) hk
theorem Qc(hx:ge E x=some (.i i a))(hy:ge E y=some (.i i b))(hr:oL i (a*b))(hk:k (.i i (a*b)) h n):SO C (.bin .mul q x y) E h n k:=
 mT hx hy (by rw[sX (by simp) (by simp)];show some (V.i i (wr i (a*b)))=_;rw[DP hr]) hk
theorem Qd{a b:Nat}(hx:ge E x=some (.i i a))(hy:ge E y=some (.i i b))(hb:0<b)(hr:oL i ((a / b:Nat):Int))(hk:k (.i i ((a / b:Nat):Int)) h n):SO C (.bin .quo q x y) E h n k:=
 mT hx hy (by
  rw[sX (by simp) (by simp)];have h0:sg (b:Int) 0=false:=by rw[iC];simp;omega
  have h1:Int.tdiv (a:Int) (b:Int)=((a / b:Nat):Int):=by simp
  simp only[oD,h0,cond_false,h1,DP hr]) hk
theorem Qe{a b:Nat}(hx:ge E x=some (.i i a))(hy:ge E y=some (.i i b))(hb:0<b)(hk:k (.i i ((a % b:Nat):Int)) h n):SO C (.bin .rem q x y) E h n k:=
 mT hx hy (by
  rw[sX (by simp) (by simp)];have h0:sg (b:Int) 0=false:=by rw[iC];simp;omega
  have h1:Int.tmod (a:Int) (b:Int)=((a % b:Nat):Int):=Int.ofNat_tmod a b;simp only[oD,h0,cond_false,h1]) hk
theorem Qf(hx:ge E x=some (.i i a))(hy:ge E y=some (.i i b))(hk:k (.b (decide (a=b))) h n):SO C (.bin .eql q x y) E h n k:=
 mT hx hy (by rw[sX (by simp) (by simp)];simp only[oD,iC]) hk
theorem Qg(hx:ge E x=some (.i i a))(hy:ge E y=some (.i i b))(hk:k (.b (!decide (a=b))) h n):SO C (.bin .neq q x y) E h n k:=
 mT hx hy (by rw[sX (by simp) (by simp)];simp only[oD,iC]) hk
theorem Qh(hx:ge E x=some (.i i a))(hy:ge E y=some (.i i b))(hk:k (.b (decide (a<b))) h n):SO C (.bin .lss q x y) E h n k:=
 mT hx hy (by rw[sX (by simp) (by simp)];simp only[oD,G6]) hk
theorem aaN(hx:ge E x=some (.i i a))(hy:ge E y=some (.i i b))(hk:k (.b (decide (a<=b))) h n):SO C (.bin .leq q x y) E h n k:=
 mT hx hy (by rw[sX (by simp) (by simp)];simp only[oD,P6]) hk
theorem Qi(hx:ge E x=some (.i i a))(hy:ge E y=some (.i i b))(hk:k (.b (decide (b<a))) h n):SO C (.bin .gtr q x y) E h n k:=
 mT hx hy (by rw[sX (by simp) (by simp)];simp only[oD,G6]) hk
theorem Qj(hx:X.ge E x=some (.i i a))(hy:ge E y=some (.i i b))(hk:k (.b (decide (b<=a))) h n):SO C (.bin .geq q x y) E h n k:=
 mT hx hy (by rw[sX (by simp) (by simp)];simp only[oD,P6]) hk
theorem Qk{j:IntKind}(hx:X.ge E x=some (.i i a))(hr:oL j a)(hk:k (.i j a) h n):SO C (.cv (.toInt j) x) E h n k:=
 gn (λ_ _ _ _=>rfl) (λT H hT hH=>by simp only[simple,hT.ge hx,rb,DP hr]) hk
end
theorem Ql{x:aJ}{b:Bool}(hx:ge E x=some (.b b))(hk:k (.b (!b)) h n):SO C (.un .not x) E h n k:=
 gn (λ_ _ _ _=>rfl) (λT H hT hH=>by simp only[simple,hT.ge hx,J9,eg]) hk
theorem aaO{x y:aJ}{a b:Bool}(hx:X.ge E x=some (.b a))(hy:X.ge E y=some (.b b))(hk:k (.b (a==b)) h n):SO C (.bin .eql (.one .bool) x y) E h n k:=
 mT hx hy rfl hk
theorem Qm{x y:aJ}{a b:Bool}(hx:X.ge E x=some (.b a))(hy:X.ge E y=some (.b b))(hk:k (.b (!(a==b))) h n):SO C (.bin .neq (.one .bool) x y) E h n k:=
 mT hx hy rfl hk
section
variable {q:eH}{x y:aJ}{a b:List UInt8}
theorem Qn(hx:ge E x=some (st a))(hy:ge E y=some (st b))(hk:k (.b (decide (a=b))) h n):SO C (.bin .eql q x y) E h n k:=
 mT hx hy (by show some (V.b (_&&_))=_;rw[G5]) hk
theorem Qo(hx:ge E x=some (st a))(hy:ge E y=some (st b))(hk:k (.b (!decide (a=b))) h n):SO C (.bin .neq q x y) E h n k:=
 mT hx hy (by show some (V.b (!(_&&_)))=_;rw[G5]) hk
theorem aaP(hx:ge E x=some (st a))(hk:k (.i .i64 (a.length:Nat)) h n):SO C (.len 0 x) E h n k:=
 gn (λ_ _ _ _=>rfl) (λT H hT hH=>by simp only[simple,hT.ge hx];rfl) hk
theorem Qp{i:IntKind}{j:Nat}(hx:ge E x=some (st a))(hy:ge E y=some (.i i (j:Nat)))(hj:j<a.length)(hk:k (.i .u8 (a[j].toNat:Nat)) h n):SO C (.idx none x y) E h n k:=
 gn (λ_ _ _ _=>rfl) (λT H hT hH=>by
  have h1:=hT.ge hx;have h2:=hT.ge hy;have h3:Nat.blt j a.length=true:=by rw[gf];simpa using hj
  simp only[simple,h1,h2];show(bif Nat.blt j a.length then _ else _)=_
  rw[h3,cond_true,DO a hj];rfl) hk
end
def bd(E:Env)(d:Nat):Option aJ->Option Nat
 | none=>some d
 | some x=>match ge E x with | some v=>Ka v | none=>none
theorem Le.bd{T:Tr V}(hT:Le E T){d:Nat}{x:Option aJ}{m:Nat}(hx:X.bd E d x=some m):dA T d x=some m:=by
 cases x with
 | none=>exact hx
 | some x=>
  simp only[X.bd]at hx;split at hx
  ·rename_i v hv;simp only[dA,hT.ge hv];exact hx
  ·cases hx
theorem Qq{x:aJ}{lo hi:Option aJ}{a:List UInt8}{i j:Nat}(hx:ge E x=some (st a))(fV:bd E 0 lo=some i)(oi:bd E a.length hi=some j)(h1:i<=j)(h2:j<=a.length)
 (hk:k (st ((a.drop i).take (j - i))) h n):SO C (.sli .str x lo hi none) E h n k:=
 gn (λ_ _ _ _=>rfl) (λT H hT hH=>by
  have e1:=hT.ge hx;have e2:=hT.bd fV;have e3:=hT.bd oi;simp only[simple,e1];show eg H n (nq .str T (.s a.length (bR a)) lo hi none)=_;have e4:Nat.ble i j=true:=by rw[jV];simpa using h1
  have e5:Nat.ble j a.length=true:=by rw[jV];simpa using h2
  simp only[nq,e2,e3,e4,e5,nN,cond_true,eg,aaM];have:Nat.sub j i=((a.drop i).take (j - i)).length:=by simp;show j - i=_;omega
  rw[this]) hk
theorem Qr{x:aJ}{i:Nat}{l:List V}{v:V}(hx:ge E x=some (.u l))(hv:nth l i=some v)(hk:k v h n):SO C (.ext x i) E h n k:=
 gn (λ_ _ _ _=>rfl) (λT H hT hH=>by simp only[simple,hT.ge hx,hv,eg]) hk
theorem aaQ{x:aJ}{o sz:Nat}{l:List V}{v:V}(hx:ge E x=some (.a l))(hv:nth l o=some v)(hk:k v h n):SO C (.fld false o sz x) E h n k:=
 gn (λ_ _ _ _=>rfl) (λT H hT hH=>by simp only[simple,hT.ge hx,hv,eg,cond_false]) hk
def iQ(E:Env)(zs:List V):List (Nat×Nat×aJ)->Option (List V)
 | []=>some zs
 | (o,sz,x)::ps=>match ge E x with
  | some v=>bif Nat.beq v.cells.length sz&&bN v.cells then (match eW v.cells zs o with | some Jk=>iQ E Jk ps | none=>none) else none
  | none=>none
theorem Le.fill{T:Tr V}(hT:Le E T):∀{ps:List (Nat×Nat×aJ)} {zs l:List V},iQ E zs ps=some l->rC T zs ps=some l:=by
 intro ps
 induction ps with
 | nil=>intro zs l hl;exact hl
 | cons p ps ih=>
  intro zs l hl;obtain⟨o,sz,x⟩:=p;simp only[iQ]at hl;split at hl
  ·rename_i v hv;simp only[rC,hT.ge hv];cases hb:(Nat.beq v.cells.length sz&&bN v.cells) with
   | false=>rw[hb]at hl;cases hl
   | true=>
    rw[hb]at hl;simp only[cond_true]at hl ⊢;split at hl
    ·rename_i Jk hz;first | exact ih hl | (simp only[hz];exact ih hl)
    ·cases hl
  ·cases hl
theorem Qs{zs l:List V}{ps:List (Nat×Nat×aJ)}(hl:iQ E zs ps=some l)(hk:k (.a l) h n):SO C (.bld zs ps) E h n k:=
 gn (λ_ _ _ _=>rfl) (λT H hT hH=>by simp only[simple,hT.fill hl]) hk
theorem aaR{f:Nat}{a c:List aJ}{as cs:List V}(ha:vZ E a=some as)(hc:vZ E c=some cs)(hk:k (.f f as cs) h n):SO C (.mfn f a c) E h n k:=
 gn (λ_ _ _ _=>rfl) (λT H hT hH=>by simp only[simple,hT.vZ ha,hT.vZ hc]) hk
theorem aaS{x:aJ}{b:K}{o:Nat}(hx:ge E x=some (.p b o))(hk:k (.p b o) h n):SO C (.nck x) E h n k:=
 gn (λ_ _ _ _=>rfl) (λT H hT hH=>by simp only[simple,hT.ge hx]) hk
theorem Qt{x y:aJ}{i:IntKind}{a b:Int}(hx:X.ge E x=some (.i i a))(hy:X.ge E y=some (.i i b))(hk:k (.i i (max a b)) h n):SO C (.mm true [x,y]) E h n k:=
 gn (λ_ _ _ _=>rfl) (λT H hT hH=>by
  simp only[simple,fP,hT.ge hx,hT.ge hy,BA,Ol,cond_true,eg,G6];congr 3;by_cases hab:a<b
  ·simp[hab];omega
  ·simp[hab];omega) hk
theorem Qu{f:aJ}{l:List aJ}{fv:V}{vs:List V}(hf:ge E f=some fv)(hl:vZ E l=some vs)(hc:τ C fv vs h n k):SO C (.hU f l) E h n k:=by intro T H hT hH;obtain⟨v,H',n',⟨f0,h1⟩,h2⟩:=hc H hH;refine⟨v,H',n',⟨f0,λf CM=>?_⟩,h2⟩;simp only[oper,eN,hT.ge hf,hT.vZ hl,h1 f CM]
end
end
section
def Ext(h:Hf)(n:K)(h':Hf)(n':K):Prop:=n.num<=n'.num/\∀k:K,k.num<n.num->h' k=h k
theorem Ext.refl(h:Hf)(n:K):Ext h n h n:=⟨Γ _,λ_ _=>rfl⟩
theorem Ext.trans{h h1 h2:Hf}{n n1 n2:K}(a:Ext h n h1 n1)(b:Ext h1 n1 h2 n2):Ext h n h2 n2:=
 ⟨gY a.1 b.1,λk hk=>by rw[b.2 k (fN hk a.1),a.2 k hk]⟩
theorem Ext.trans'{h h1 h2:Hf}{n n1 n2:K}(a:Ext h n h1 n1)(b1:n1.num<=n2.num)(b2:∀k:K,k.num<n.num->h2 k=h1 k):Ext h n h2 n2:=
 ⟨gY a.1 b1,λk hk=>by rw[b2 k hk,a.2 k hk]⟩
theorem Ext.new{h h1:Hf}{n n1:K}(a:Ext h n h1 n1)(o:Option O):Ext h n (hp h1 n1 o) n1.succ:=
 ⟨by rw[K.fH];have:=a.1;omega,λk hk=>by rw[mh _ _ (λe=>by subst e;have:=a.1;omega),a.2 k hk]⟩
theorem Ext.succ{h h1:Hf}{n n1:K}(a:Ext h n h1 n1):Ext h n h1 n1.succ:=⟨by rw[K.fH];have:=a.1;omega,a.2⟩
theorem Ext.row{h h':Hf}{n n':K}(a:Ext h n h' n'){b:K}(hb:b.num<n.num):ja h' b=ja h b:=by unfold ja;rw[a.2 b hb]
theorem Ext.ld{h h':Hf}{n n':K}(a:Ext h n h' n'){b:K}(hb:b.num<n.num)(agg:Bool)(sz o:Nat):cD h' agg sz (.p b o)=cD h agg sz (.p b o):=by simp only[cD,a.row hb]
theorem pN{a b:K}(h:a.num≠b.num):a≠b:=λe=>h (by rw[e])
theorem aaU(h:Hf)(b:K)(o:O):ja (hp h b (some o)) b=o.row:=by simp[ja,gw]
section
variable {C:Nat->Option bP}{E:Env}{h:Hf}{n:K}{k:V->Hf->K->Prop}
theorem DQ{op:A}{o:O}{v:V}(bC:∀ih T H n,eN ih op T H n=match simple op T H n with | some (v,H,n)=>some ⟨.normal,.e,v,H,n⟩ | none=>none)
 (hs:∀T H,Le E T->H.get=h->simple op T H n=j4 H n o v)(hk:k v (hp h n (some o)) n.succ):SO C op E h n k:=
 qw bC λT H hT hH=>⟨v,H.put (some o) n,n.succ,hs T H hT hH,by rw[jr,hH];exact hk⟩
theorem aaV{e:Nat}{zs:List V}(hk:k (.p n 0) (hp h n (some (.c zs e 0))) n.succ):SO C (.new e zs) E h n k:=
 DQ (λ_ _ _ _=>rfl) (λT H hT hH=>rfl) hk
theorem aaW{e:Nat}{x:aJ}{v:V}{cs:List V}(hx:ge E x=some v)(hc:v.cells=cs)(ho:bN cs=true)(hk:k (.p n 0) (hp h n (some (.c cs e 0))) n.succ):SO C (.box e x) E h n k:=
 DQ (λ_ _ _ _=>rfl) (λT H hT hH=>by simp only[simple,hT.ge hx,hc,ho,cond_true]) hk
theorem aaX{e len:Nat}{zs l:List V}{ps:List (Nat×Nat×aJ)}(hl:iQ E zs ps=some l)(hk:k (.sl n 0 len len) (hp h n (some (.c l e 0))) n.succ):SO C (.bsl e zs len ps) E h n k:=
 DQ (λ_ _ _ _=>rfl) (λT H hT hH=>by simp only[simple,hT.fill hl]) hk
theorem aaY{e esz bytes m:Nat}{z:List V}{x y:aJ}{i j:IntKind}(hx:ge E x=some (.i i (m:Nat)))(hy:ge E y=some (.i j (m:Nat)))(hb:m*bytes<=140737488355328)(fM:m<=9223372036854775807)
 (hk:k (.sl n 0 m m) (hp h n (some (.c (gu z m) e 0))) n.succ):SO C (.msl e esz bytes z x y) E h n k:=
 DQ (λ_ _ _ _=>rfl) (λT H hT hH=>by
  simp only[simple,hT.ge hx,hT.ge hy];show(bif Nat.ble m m&&Nat.ble (m*bytes) 140737488355328&&Nat.ble m 9223372036854775807 then _ else _)=_
  rw[jE (Γ m),jE hb,jE fM];rfl) hk
theorem aaZ{agg:Bool}{sz:Nat}{a:aJ}{p v:V}(ha:ge E a=some p)(hv:cD h agg sz p=some v)(hk:k v h n):SO C (.ld agg sz a) E h n k:=
 gn (λ_ _ _ _=>rfl) (λT H hT hH=>by simp only[simple,hT.ge ha,G3 hH,hv,eg]) hk
theorem Qv{o off:Nat}{x:aJ}{b:K}(hx:ge E x=some (.p b o))(hk:k (.p b (o+off)) h n):SO C (.fad off x) E h n k:=
 gn (λ_ _ _ _=>rfl) (λT H hT hH=>by simp only[simple,hT.ge hx];rfl) hk
def mG(l:List V)(fz o sz:Nat)(v:V):Option (List V):=
 bif Nat.beq v.cells.length sz&&(Nat.ble fz o&&bN v.cells) then eW v.cells l o else none
theorem aa0{sz:Nat}{a x:aJ}{b:K}{o e fz:Nat}{l l':List V}{v:V}(ha:ge E a=some (.p b o))(hx:ge E x=some v)(hb:h b=some (.c l e fz))(hl:mG l fz o sz v=some l')
 (hk:k (.u []) (hp h b (some (.c l' e fz))) n):SO C (.st sz a x) E h n k:=
 qw (λ_ _ _ _=>rfl) λT H hT hH=>by
  refine⟨.u [],H.put (some (.c l' e fz)) b,n,?_,by rw[jr,hH];exact hk⟩;unfold mG at hl;cases h1:Nat.beq v.cells.length sz with
  | false=>rw[h1]at hl;cases hl
  | true=>
   rw[h1]at hl;cases h2:(Nat.ble fz o&&bN v.cells) with
   | false=>rw[h2]at hl;cases hl
   | true=>
    rw[h2]at hl;simp only[nN,cond_true]at hl;have jO:H.get b=some (.c l e fz):=by rw[hH];exact hb
    simp only[simple,hT.ge ha,hT.ge hx,CJ,h1,cond_true,iP,jO,h2,hl,qt]
def _root_.Go.Ev.V.blk:V->K
 | .sl b _ _ _ | .su b _ _ _=>b
 | _=>.h
def _root_.Go.Ev.V.off:V->Nat
 | .sl _ o _ _ | .su _ o _ _=>o
 | _=>0
def ρ(h:Hf)(n:K)(z:Nat)(v:V)(len:Nat)(cs:List V):Prop:=
 cs.length=len*z/\((v=.ns/\len=0)\/((∃b o c,((v=.sl b o len c/\len<=c)\/v=.su b o len z)/\b.num<n.num)/\∃row,ja h v.blk=some row/\dt row v.off (len*z)=some cs))
theorem ρ.ns(h:Hf)(n:K)(z:Nat):ρ h n z .ns 0 []:=⟨by simp,Or.inl ⟨rfl,rfl⟩⟩
theorem ρ.ext{h h':Hf}{n n':K}{z:Nat}{v:V}{len:Nat}{cs:List V}(a:ρ h n z v len cs)(e:Ext h n h' n'):ρ h' n' z v len cs:=by
 obtain⟨h1,h2⟩:=a;refine⟨h1,h2.imp id λ⟨⟨b,o,c,h3,h4⟩,row,h5,h6⟩=>⟨⟨b,o,c,h3,fN h4 e.1⟩,row,?_,h6⟩⟩;have:v.blk=b:=by cases h3 with | inl e=>rw[e.1];rfl | inr e=>rw[e];rfl
 rw[e.row (by rw[this];exact h4)];exact h5
theorem ρ.xT{h:Hf}{n:K}{z:Nat}{v:V}{len:Nat}{cs:List V}(a:ρ h n z v len cs)(hl:0<len):v.blk.num<n.num:=by
 obtain⟨h1,h2⟩:=a;cases h2 with
 | inl h=>omega
 | inr h=>obtain⟨⟨b,o,c,h3,h4⟩,_⟩:=h;cases h3 with | inl e=>rw[e.1];exact h4 | inr e=>rw[e];exact h4
theorem ρ.one{h:Hf}{n:K}{z:Nat}{v:V}{len:Nat}{cs:List V}(a:ρ h n z v len cs):v.one=true:=by
 obtain⟨h1,h2⟩:=a;cases h2 with
 | inl h=>rw[h.1];rfl
 | inr h=>obtain⟨⟨b,o,c,h3,h4⟩,_⟩:=h;cases h3 with | inl e=>rw[e.1];rfl | inr e=>rw[e];rfl
theorem ρ.cells{h:Hf}{n:K}{z:Nat}{v:V}{len:Nat}{cs:List V}(a:ρ h n z v len cs):v.cells=[v]:=by
 obtain⟨h1,h2⟩:=a;cases h2 with
 | inl h=>rw[h.1];rfl
 | inr h=>obtain⟨⟨b,o,c,h3,h4⟩,_⟩:=h;cases h3 with | inl e=>rw[e.1];rfl | inr e=>rw[e];rfl
theorem xU{α:Type}{l:List α}{o m:Nat}(hl:o+m<=l.length):dt l o m=some ((l.drop o).take m):=by
 have h1:∀(o:Nat) (l:List α),o<=l.length->pI o l=some (l.drop o):=by
  intro o
  induction o with
  | zero=>intro l _;rfl
  | succ o ih=>intro l hl;cases l with
   | nil=>simp at hl
   | cons a l=>exact ih l (by simpa using hl)
 have h2:∀(m:Nat) (l:List α),m<=l.length->takeN m l=some (l.take m):=by
  intro m
  induction m with
  | zero=>intro l _;simp[takeN]
  | succ m ih=>intro l hl;cases l with
   | nil=>simp at hl
   | cons a l=>simp only[takeN,ih l (by simpa using hl),sG]
 unfold dt;rw[h1 o l (by omega)];exact h2 m _ (by simp;omega)
theorem Qw{α:Type}{l cs:List α}{o m i j:Nat}(hs:dt l o m=some cs)(ua:i+j<=m):dt l (o+i) j=some ((cs.drop i).take j):=by obtain⟨e,hl⟩:=oI hs;rw[xU (by omega),e,List.drop_take,List.take_take,List.drop_drop];congr 2;omega
theorem Qx{α:Type}{l cs:List α}{o m i:Nat}(hs:dt l o m=some cs)(hi:i<m):nth l (o+i)=nth cs i:=by obtain⟨e,hl⟩:=oI hs;rw[pL,pL,e,List.getElem?_take,az hi,Bs]
theorem ρ.get{z:Nat}{v:V}{len:Nat}{cs:List V}(a:ρ h n z v len cs){i:Nat}{w:V}(hi:nth cs i=some w)(sz:Nat):cD h false sz (.p v.blk (v.off+i))=some w:=by
 obtain⟨h1,h2⟩:=a;have ψ:i<cs.length:=by rw[pL]at hi;exact(nL.1 hi).1
 cases h2 with
 | inl h=>rw[h1,h.2]at ψ;omega
 | inr h=>
  obtain⟨_,row,h5,h6⟩:=h;simp only[cD,h5,cond_false];rw[Qx h6 (by omega)];exact hi
theorem ρ.nO{z:Nat}{v:V}{len:Nat}{cs:List V}(a:ρ h n z v len cs){i sz:Nat}(hi:i+sz<=len*z)(mR:0<len):cD h true sz (.p v.blk (v.off+i))=some (.a ((cs.drop i).take sz)):=by
 obtain⟨h1,h2⟩:=a;cases h2 with
 | inl h=>omega
 | inr h=>
  obtain⟨_,row,h5,h6⟩:=h;simp only[cD,h5,cond_true,Qw h6 hi]
theorem aa1{z:Nat}{x:aJ}{v:V}{len:Nat}{cs:List V}{h0:Hf}{n0:K}(hx:ge E x=some v)(a:ρ h0 n0 z v len cs)(hk:k (.i .i64 (len:Nat)) h n):SO C (.len 1 x) E h n k:=
 gn (λ_ _ _ _=>rfl) (λT H hT hH=>by
  have e:=hT.ge hx;obtain⟨h1,h2⟩:=a;cases h2 with
  | inl h=>rw[h.1]at e;simp only[simple,e,h.2];rfl
  | inr h=>
   obtain⟨⟨b,o,c,h3,h4⟩,_⟩:=h;cases h3 with
   | inl e'=>replace e':=e'.1;rw[e']at e;simp only[simple,e];rfl
   | inr e'=>rw[e']at e;simp only[simple,e];rfl) hk
theorem Qy{z:Nat}{x y:aJ}{v:V}{len i:Nat}{j:IntKind}{cs:List V}{h0:Hf}{n0:K}(hx:ge E x=some v)(hy:ge E y=some (.i j (i:Nat)))(a:ρ h0 n0 z v len cs)(hi:i<len)
 (hk:k (.p v.blk (v.off+i*z)) h n):SO C (.iad none z x y) E h n k:=
 gn (λ_ _ _ _=>rfl) (λT H hT hH=>by
  have e:=hT.ge hx;have e2:aI T y=some (.i j (Int.ofNat i)):=hT.ge hy;have e3:Nat.blt i len=true:=by rw[gf];simpa using hi
  obtain⟨h1,h2⟩:=a;cases h2 with
  | inl h=>omega
  | inr h=>
   obtain⟨⟨b,o,c,h3,h4⟩,_⟩:=h;cases h3 with
   | inl e'=>replace e':=e'.1;rw[e']at e;simp only[simple,e,e2,e3,cond_true,e'];rfl
   | inr e'=>rw[e']at e;simp only[simple,e,e2,e3,cond_true,e'];rfl) hk
theorem zN(T:Tr V)(d:Nat):dA T d none=some d:=rfl
theorem Qz{z:Nat}{x:aJ}{lo hi:Option aJ}{v:V}{len i j:Nat}{cs:List V}(hx:ge E x=some v){n0:K}(a:ρ h n0 z v len cs)(fV:bd E 0 lo=some i)(oi:bd E len hi=some j)(h1:i<=j)(h2:j<=len)
 (hk:∀v',ρ h n0 z v' (j - i) ((cs.drop (i*z)).take ((j - i)*z))->(v'.len=j - i/\v'.blk=v.blk/\(v=.ns->v'=.ns))->k v' h n):SO C (.sli (.sl z) x lo hi none) E h n k:=by
 obtain⟨g1,g2⟩:=a;have hm:i*z+(j - i)*z<=len*z:=by rw[←iO];exact iw z (by omega)
 have hlen:((cs.drop (i*z)).take ((j - i)*z)).length=(j - i)*z:=by simp;omega
 cases g2 with
 | inl g=>
  have KA:i=0:=by omega
  have hj0:j=0:=by omega
  refine gn (v:=.ns) (λ_ _ _ _=>rfl) (λT H hT hH=>?_) (hk .ns ⟨hlen,Or.inl ⟨rfl,by omega⟩⟩ ⟨by subst KA;subst hj0;rfl,by rw[g.1],λ_=>rfl⟩);have e:=hT.ge hx;have e2:=hT.bd fV;have e3:=hT.bd oi;rw[g.1]at e;rw[g.2]at e3;subst KA;subst hj0;simp only[simple,e,nq,e2,e3,zN,eg]
 | inr g=>
  obtain⟨⟨b,o,c,g3,g4⟩,row,g5,g6⟩:=g;have kg:dt row (v.off+i*z) ((j - i)*z)=some ((cs.drop (i*z)).take ((j - i)*z)):=Qw g6 hm;cases g3 with
  | inl g3=>
   obtain⟨g3,g7⟩:=g3;have Yz:(bif Nat.beq c i then o else Nat.add o (Nat.mul i z))=o+i*z\/j - i=0:=by
    cases hb:Nat.beq c i with
    | true=>right;have:=cZ hb;omega
    | false=>left;rfl
   refine gn (v:=.sl b (bif Nat.beq c i then o else Nat.add o (Nat.mul i z)) (j - i) (c - i)) (λ_ _ _ _=>rfl) (λT H hT hH=>?_) (hk _ ⟨hlen,Or.inr ⟨⟨b,_,_,Or.inl ⟨rfl,by omega⟩,g4⟩,row,?_,?_⟩⟩ ⟨rfl,by rw[g3];rfl,λe=>by rw[g3]at e;cases e⟩)
   ·have e:=hT.ge hx;have e2:=hT.bd fV;have e3:=hT.bd oi;rw[g3]at e;have b1:Nat.ble i j=true:=jE h1;have b2:Nat.ble j c=true:=jE (by omega);have b3:Nat.ble c c=true:=jE (Γ c);simp only[simple,e,nq,e2,e3,zN,b1,b2,b3,nN,cond_true,eg];rfl
   ·rw[g3]at g5;exact g5
   ·rw[g3]at kg;cases Yz with
    | inl Yz=>show dt row (bif Nat.beq c i then o else Nat.add o (Nat.mul i z)) _=_;rw[Yz];exact kg
    | inr h0=>
     have zO:=(oI g6).2;rw[h0];simp only[Nat.zero_mul,List.take_zero];show dt row (bif Nat.beq c i then o else Nat.add o (Nat.mul i z)) 0=some []
     rw[g3]at zO;have ho:o<=row.length:=by have:(V.sl b o len c).off=o:=rfl;rw[this]at zO;omega
     cases hb:Nat.beq c i with
     | true=>rw[cond_true,xU (by omega)];simp
     | false=>
      have aa3:=(oI kg).2;have:(V.sl b o len c).off=o:=rfl;rw[this]at aa3;rw[cond_false,xU (by show o+i*z+0<=_;omega)];simp
  | inr g3=>
   refine gn (v:=.su b (o+i*z) (j - i) z) (λ_ _ _ _=>rfl) (λT H hT hH=>?_) (hk _ ⟨hlen,Or.inr ⟨⟨b,_,0,Or.inr U,g4⟩,row,?_,?_⟩⟩ ⟨rfl,by rw[g3];rfl,λe=>by rw[g3]at e;cases e⟩)
   ·have e:=hT.ge hx;have e2:=hT.bd fV;have e3:=hT.bd oi;rw[g3]at e;have b1:Nat.ble i j=true:=jE h1;have b2:Nat.ble j len=true:=jE h2;have b3:Nat.beq z z=true:=by rw[dD];simp
    simp only[simple,e,nq,e2,e3,zN,b1,b2,b3,nN,cond_true,eg];rfl
   ·rw[g3]at g5;exact g5
   ·rw[g3]at kg;exact kg
theorem aa4{z:Nat}{x hi mx:aJ}{v:V}{len:Nat}{cs:List V}{i1 i2:IntKind}(hx:ge E x=some v){n0:K}(a:ρ h n0 z v len cs)(oi:ge E hi=some (.i i1 (len:Nat)))(xg:ge E mx=some (.i i2 (len:Nat)))
 (hk:∀v',ρ h n0 z v' len cs->(v'.len=len/\v'.blk=v.blk/\(v=.ns->v'=.ns))->k v' h n):SO C (.sli (.sl z) x none (some hi) (some mx)) E h n k:=by
 obtain⟨g1,g2⟩:=a;have e2:∀{T:Tr V},Le E T->∀d,dA T d (some hi)=some len:=λhT d=>hT.bd (by simp only[bd,oi];rfl);have e3:∀{T:Tr V},Le E T->∀d,dA T d (some mx)=some len:=λhT d=>hT.bd (by simp only[bd,xg];rfl);have b3:Nat.ble len len=true:=jE (Γ len);have b0:Nat.ble 0 len=true:=jE (rB len);cases g2 with
 | inl g=>
  refine gn (v:=.ns) (λ_ _ _ _=>rfl) (λT H hT hH=>?_) (hk .ns ⟨g1,Or.inl ⟨rfl,g.2⟩⟩ ⟨by rw[g.2];rfl,by rw[g.1],λ_=>rfl⟩);have e:=hT.ge hx;rw[g.1]at e;have e2:=e2 hT;have e3:=e3 hT;rw[g.2]at e2 e3;simp only[simple,e,nq,e2,e3,zN,eg]
 | inr g=>
  obtain⟨⟨b,o,c,g3,g4⟩,row,g5,g6⟩:=g;cases g3 with
  | inl g3=>
   obtain⟨g3,g7⟩:=g3;have KB:(bif Nat.beq len 0 then o else Nat.add o (Nat.mul 0 z))=o:=by
    cases Nat.beq len 0 with
    | true=>rfl
    | false=>show o+0*z=o;omega
   refine gn (v:=.sl b o len len) (λ_ _ _ _=>rfl) (λT H hT hH=>?_) (hk _ ⟨g1,Or.inr ⟨⟨b,_,_,Or.inl ⟨rfl,by omega⟩,g4⟩,row,?_,?_⟩⟩ ⟨rfl,by rw[g3];rfl,λe=>by rw[g3]at e;cases e⟩)
   ·have e:=hT.ge hx;rw[g3]at e;have b2:Nat.ble len c=true:=jE g7;simp only[simple,e,nq,e2 hT,e3 hT,zN,b0,b2,b3,nN,cond_true,eg,KB];rfl
   ·rw[g3]at g5;exact g5
   ·rw[g3]at g6;exact g6
  | inr g3=>
   have b4:Nat.beq z z=true:=by rw[dD];simp
   by_cases hl:len=0
   ·subst hl;refine gn (v:=.su b o 0 z) (λ_ _ _ _=>rfl) (λT H hT hH=>?_) (hk _ ⟨g1,Or.inr ⟨⟨b,_,0,Or.inr U,g4⟩,row,?_,?_⟩⟩ ⟨rfl,by rw[g3],λe=>by rw[g3]at e;cases e⟩)
    ·have e:=hT.ge hx;rw[g3]at e;simp only[simple,e,nq,e2 hT,e3 hT,zN,b0,b4,nN,cond_true,eg];rfl
    ·rw[g3]at g5;exact g5
    ·rw[g3]at g6;exact g6
   ·have b5:Nat.beq len 0=false:=by rw[dD];simp[hl]
    have KB:Nat.add o (Nat.mul 0 z)=o:=by show o+0*z=o;omega
    refine gn (v:=.sl b o len len) (λ_ _ _ _=>rfl) (λT H hT hH=>?_) (hk _ ⟨g1,Or.inr ⟨⟨b,_,_,Or.inl ⟨rfl,by omega⟩,g4⟩,row,?_,?_⟩⟩ ⟨rfl,by rw[g3];rfl,λe=>by rw[g3]at e;cases e⟩)
    ·have e:=hT.ge hx;rw[g3]at e;simp only[simple,e,nq,e2 hT,e3 hT,zN,b0,b3,b4,b5,nN,cond_true,cond_false,eg,KB];rfl
    ·rw[g3]at g5;exact g5
    ·rw[g3]at g6;exact g6
theorem ρ.elems{z:Nat}{v:V}{len:Nat}{cs:List V}(a:ρ h n z v len cs){H:Hp}(hH:H.get=h):elems H z v=some (len,cs):=by
 obtain⟨g1,g2⟩:=a;have b4:Nat.beq z z=true:=by rw[dD];simp
 cases g2 with
 | inl g=>
  have:cs=[]:=by rw[g.2]at g1;simpa using g1
  rw[g.1,g.2,this];rfl
 | inr g=>
  obtain⟨⟨b,o,c,g3,g4⟩,row,g5,g6⟩:=g;cases g3 with
  | inl g3=>
   rw[g3.1]at g5 g6;have e:rowAt H b=some row:=by rw[P3 hH];exact g5
   have e2:dt row o (Nat.mul len z)=some cs:=g6;rw[g3.1];simp only[Ev.elems,e,e2]
  | inr g3=>
   rw[g3]at g5 g6;have e:rowAt H b=some row:=by rw[P3 hH];exact g5
   have e2:dt row o (Nat.mul len z)=some cs:=g6;rw[g3];simp only[Ev.elems,e,e2,b4,cond_true];cases hl:Nat.beq len 0 with
   | true=>
    have:len=0:=cZ hl;have:cs=[]:=by rw[this]at g1;simpa using g1
    rw[this,cond_true];simp[cZ hl]
   | false=>rfl
theorem room{l m bytes:Nat}(h1:(l+m)*bytes<=1000000000)(h2:bytes<=100000)(h3:l+m<=1000000000):
 (!(Nat.ble (Nat.mul (Nat.add l m) bytes) 1000000000&&Nat.ble bytes 100000&&Nat.ble (Nat.add l m) 1000000000))=false:=by
 have e1:Nat.ble (Nat.mul (Nat.add l m) bytes) 1000000000=true:=jE h1;have e2:Nat.ble bytes 100000=true:=jE h2;have e3:Nat.ble (Nat.add l m) 1000000000=true:=jE h3;rw[e1,e2,e3];rfl
theorem QA{e z bytes m:Nat}{zl new:List V}{s x:aJ}{v:V}(hs:ge E s=some .ns)(hx:ge E x=some v)(a:ρ h n z v m new)(h1:m*bytes<=1000000000)(h2:bytes<=100000)(h3:m<=1000000000)
 (iD:m=0->k .ns h n)(hk:0<m->k (.su n 0 m z) (hp h n (some (.c new e 0))) n.succ):SO C (.app e z bytes zl false s x) E h n k:=
 qw (λ_ _ _ _=>rfl) λT H hT hH=>by
  have hr:=room (l:=0) (m:=m) (bytes:=bytes) (by simpa using h1) h2 (by omega);have po:(!(Nat.ble (Nat.mul (Nat.add (V.len .ns) m) bytes) 1000000000&&Nat.ble bytes 100000&&Nat.ble (Nat.add (V.len .ns) m) 1000000000))=false:=hr;by_cases hm:m=0
  ·refine⟨.ns,H,n,?_,by rw[hH];exact iD hm⟩;have hb:Nat.beq m 0=true:=by rw[dD];simpa using hm
   simp only[simple,hT.ge hs,hT.ge hx,a.elems hH,cond_false,ra,po,hb,cond_true]
  ·refine⟨.su n 0 m z,H.put (some (.c new e 0)) n,n.succ,?_,by rw[jr,hH];exact hk (by omega)⟩;have hb:Nat.beq m 0=false:=by rw[dD];simpa using hm
   simp only[simple,hT.ge hs,hT.ge hx,a.elems hH,cond_false,ra,po,hb,j4]
def gp(h:Hf)(e z:Nat)(v:V)(len:Nat)(cs:List V):Prop:=
 cs.length=len*z/\((v=.ns/\len=0)\/(0<len/\∃b,v=.su b 0 len z/\h b=some (.c cs e 0)))
theorem gp.ns(h:Hf)(e z:Nat):gp h e z .ns 0 []:=⟨by simp,Or.inl ⟨rfl,rfl⟩⟩
def gp.At(v:V)(lo hi:K):Prop:=v=.ns\/(lo.num<=v.blk.num/\v.blk.num<hi.num)
theorem aa5{e z bytes m len:Nat}{zl new cs:List V}{s x:aJ}{o v:V}(hs:ge E s=some o)(ho:gp h e z o len cs)(hx:ge E x=some v)(a:ρ h n z v m new)(h1:(len+m)*bytes<=1000000000)(h2:bytes<=100000)(h3:len+m<=1000000000)
 (hm:0<m)(eF:bN new=true)(hk:∀h',(∀b:K,b.num<n.num->(o=.ns\/b≠o.blk)->h' b=h b)->h' n=some (.c (cs++new) e 0)->k (.su n 0 (len+m) z) h' n.succ)(hn:o=.ns\/o.blk.num<n.num):SO C (.app e z bytes zl false s x) E h n k:=
 qw (λ_ _ _ _=>rfl) λT H hT hH=>by
  obtain⟨g1,g2⟩:=ho;have hb:Nat.beq m 0=false:=by rw[dD];simp;omega
  cases g2 with
  | inl g=>
   obtain⟨rfl,rfl⟩:=g;have po:(!(Nat.ble (Nat.mul (Nat.add (V.len .ns) m) bytes) 1000000000&&Nat.ble bytes 100000&&Nat.ble (Nat.add (V.len .ns) m) 1000000000))=false:=room (l:=0) (m:=m) (bytes:=bytes) (by simpa using h1) h2 (by omega);have ke:cs=[]:=by simpa using g1
   subst ke;refine⟨.su n 0 m z,H.put (some (.c new e 0)) n,n.succ,?_,?_⟩
   ·simp only[simple,hT.ge hs,hT.ge hx,a.elems hH,cond_false,ra,po,hb,j4]
   ·rw[jr,hH];have:=hk (hp h n (some (.c new e 0))) (λb hb _=>mh _ _ (pN (by omega))) (gw _ _ _);rw[hY]at this;exact this
  | inr g=>
   obtain⟨hl,b,rfl,g3⟩:=g;have po:(!(Nat.ble (Nat.mul (Nat.add (V.len (.su b 0 len z)) m) bytes) 1000000000&&Nat.ble bytes 100000&&Nat.ble (Nat.add (V.len (.su b 0 len z)) m) 1000000000))=false:=room (l:=len) (m:=m) (bytes:=bytes) h1 h2 h3;have gz:b.num<n.num:=by cases hn with | inl e=>cases e | inr e=>exact e
   have g4:H.get b=some (.c cs e 0):=by rw[hH];exact g3
   have b1:Nat.beq e e=true:=by rw[dD];simp
   have b2:Nat.beq z z=true:=by rw[dD];simp
   have b3:Nat.ble 0 (Nat.add 0 (Nat.mul len z))=true:=jE (rB _);have b4:dt cs 0 (Nat.mul len z)=some cs:=by rw[xU (by show 0+len*z<=_;omega)];simp;show List.take (len*z) cs=cs;rw[←g1,fO]
   refine⟨.su n 0 (len+m) z,(H.put none b).put (some (.c (cs++new) e 0)) n,n.succ,?_,?_⟩
   ·simp only[simple,hT.ge hs,hT.ge hx,a.elems hH,cond_false,ra,po,hb,g4,b1,b2,b3,eF,nN,cond_true,b4,j4];rfl
   ·rw[jr,jr,hH];refine hk _ (λk hk bC=>?_) (gw _ _ _);have aa6:k≠b:=by cases bC with | inl e=>cases e | inr e=>exact e
    rw[mh _ _ (pN (by omega)),mh _ _ aa6]
theorem ρ.of{b:K}{o c z len:Nat}{row cs:List V}(hb:b.num<n.num)(hr:ja h b=some row)(hc:len<=c)(hl:cs.length=len*z)(hs:dt row o (len*z)=some cs):ρ h n z (.sl b o len c) len cs:=
 ⟨hl,Or.inr ⟨⟨b,o,c,Or.inl ⟨rfl,hc⟩,hb⟩,row,hr,hs⟩⟩
theorem oM{l:List V}{m:Nat}(h:l.length=m):dt l 0 m=some l:=by rw[xU (by omega)];simp[←h]
theorem ρ.whole{b:K}{e fz z len:Nat}{row:List V}(hb:b.num<n.num)(hr:h b=some (.c row e fz))(hl:row.length=len*z):ρ h n z (.sl b 0 len len) len row:=
 ρ.of hb (by simp[ja,hr,O.row]) (Γ _) hl (oM hl)
theorem gp.sl{e z:Nat}{v:V}{len:Nat}{cs:List V}(a:gp h e z v len cs)(hn:v=.ns\/v.blk.num<n.num):ρ h n z v len cs:=by
 obtain⟨g1,g2⟩:=a;refine⟨g1,g2.imp id λ⟨hl,b,e1,g3⟩=>?_⟩;subst e1;have hb:b.num<n.num:=by cases hn with | inl e=>cases e | inr e=>exact e
 exact⟨⟨b,0,0,Or.inr U,hb⟩,cs,by simp[ja,V.blk,g3,O.row],oM g1⟩
theorem gp.ext{e z:Nat}{v:V}{len:Nat}{cs:List V}(a:gp h e z v len cs){h':Hf}(he:v=.ns\/h' v.blk=h v.blk):gp h' e z v len cs:=by
 obtain⟨g1,g2⟩:=a;refine⟨g1,g2.imp id λ⟨hl,b,e1,g3⟩=>⟨hl,b,e1,?_⟩⟩;subst e1;cases he with
 | inl e=>cases e
 | inr e=>
  have:h' b=h b:=e;rw[this,g3]
end
end
end Go.Ev.X
