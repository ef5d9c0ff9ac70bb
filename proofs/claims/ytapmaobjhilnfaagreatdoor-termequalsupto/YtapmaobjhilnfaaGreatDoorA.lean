/- A part of the proof. -/
import Derived.Calls
import Derived.Laws.Sem
import Derived.Laws.Strings
set_option linter.all false
namespace Go.Ev
theorem U{α:Sort _}{a:α}:a=a:=rfl
abbrev χ:=@Nat.le_refl
abbrev bA:=@decide_eq_true_eq
abbrev bh:=@Bool.and_eq_true
abbrev cV:=@decide_eq_false_iff_not
abbrev cL:=@Nat.eq_of_beq_eq_true
abbrev fj:=@List.getD_eq_getElem?_getD
abbrev fC:=@List.drop_eq_getElem_cons
abbrev gB:=@Array.getElem?_setIfInBounds
abbrev Ξ:=@if_neg
abbrev fO:=@List.getElem?_eq_getElem
abbrev au:=@if_pos
abbrev fk:=@Nat.lt_of_lt_of_le
abbrev dP:=@Nat.mul_comm
abbrev fH:=@List.length_cons
abbrev gX:=@Nat.mul_le_mul_right
abbrev jB:=@Nat.ble_eq_true_of_le
abbrev fW:=@List.getElem_mem
abbrev pg:=@List.take_succ_eq_append_getElem
abbrev gj:=@decide_eq_false
abbrev gM:=@List.take_length
abbrev gY:=@List.drop_length
abbrev nz:=@Array.getElem?_eq_getElem
abbrev iD:=@Bool.cond_eq_ite
abbrev fX:=@List.mem_cons
abbrev fY:=@Nat.le_of_lt
abbrev oh:=@Array.getElem?_eq_some_iff
abbrev nD:=@Nat.le_of_ble_eq_true
abbrev nE:=@Array.getElem?_toList
abbrev gI:=@Nat.pow_succ
abbrev iE:=@Nat.mul_assoc
abbrev gl:=@Nat.mul_add
abbrev mC:=@Bool.false_eq_true
abbrev pZ:=@List.take_of_length_le
abbrev oi:=@List.length_append
abbrev oj:=@List.getElem?_eq_some_iff
abbrev iG:=@step_lone_go
abbrev iH:=@Nat.le_trans
abbrev re:=@List.drop_eq_nil_of_le
abbrev iI:=@Nat.zero_add
abbrev rf:=@List.getElem?_cons_succ
abbrev iJ:=@Nat.add_mul
abbrev mD:=@List.length_set
abbrev jC:=@Nat.lt_or_ge
abbrev rh:=@Nat.mul_le_mul_left
abbrev jr:=@List.drop_zero
abbrev kE:=@Nat.mul_zero
abbrev kF:=@Nat.add_zero
abbrev mE:=@Nat.add_assoc
abbrev lP:=@List.map_cons
abbrev xF:=@Array.getD_eq_getD_getElem?
abbrev sD:=@List.take_succ_cons
abbrev p7:=@Option.some.injEq
abbrev wu:=@List.getElem?_append_left
abbrev uq:=@List.getElem_cons_zero
abbrev sE:=@Int.natCast_nonneg
abbrev p9:=@List.length_nil
abbrev uu:=@List.getElem_of_mem
abbrev qa:=@Bool.or_eq_true
abbrev ri:=@List.length_take
abbrev xG:=@List.length_eq_zero_iff
abbrev xH:=@List.getElem?_cons_zero
abbrev jP:=@Array.ext'
abbrev wv:=@List.mem_of_mem_take
abbrev sF:=@List.all_eq_true
abbrev lQ:=@Nat.mul_one
abbrev xI:=@List.getElem?_eq_none
abbrev rj:=@decide_eq_true
abbrev rk:=@Option.map_some
abbrev sG:=@Bool.eq_iff_iff
abbrev lS:=@Nat.mod_lt
abbrev uv:=@List.length_drop
abbrev zw:=@List.getElem?_append_right
abbrev zy:=@List.getElem_cons_succ
abbrev om:=@Bool.and_self
abbrev qb:=@Nat.sub_zero
abbrev xJ:=@Nat.pos_of_ne_zero
abbrev xK:=@List.cons_append
abbrev zA:=@Nat.pow_le_pow_right
abbrev xL:=@List.range_eq_range'
abbrev qc:=@Nat.sub_self
abbrev rm:=@Nat.add_comm
abbrev xM:=@Bool.not_eq_true'
abbrev Du:=@Nat.lt_of_mul_lt_mul_right
abbrev xN:=@List.not_mem_nil
abbrev Bp:=@Nat.div_lt_iff_lt_mul
abbrev Bq:=@List.take_append_drop
abbrev zB:=@List.mem_singleton
abbrev Br:=@List.getElem?_toArray
abbrev wx:=@Bool.false_and
abbrev Dw:=@List.mem_of_mem_drop
abbrev xO:=@Nat.div_add_mod
abbrev xP:=@List.mem_append
abbrev wy:=@List.length_map
abbrev Bs:=@List.getElem_set_ne
abbrev wz:=@Bool.true_and
abbrev Bt:=@Array.length_toList
abbrev Bu:=@Array.getElem?_push
abbrev zC:=@Nat.mod_eq_of_lt
abbrev xQ:=@Nat.mul_le_mul
abbrev Dx:=@Nat.div_div_eq_div_mul
abbrev Bv:=@List.set_cons_succ
abbrev Bw:=@List.getElem?_drop
abbrev uw:=@Nat.zero_le
abbrev xR:=@Nat.min_eq_left
abbrev Bx:=@List.mem_append_right
abbrev Dy:=@List.getElem_set_self
abbrev By:=@Nat.lt_trichotomy
abbrev Bz:=@List.append_assoc
abbrev zD:=@Array.size_append
abbrev GQ:=@Nat.mul_lt_mul_of_pos_left
abbrev Dz:=@Bool.or_eq_false_iff
abbrev BA:=@Option.bind_some
abbrev BB:=@List.ext_getElem
abbrev BC:=@Bool.not_eq_true
abbrev DA:=@List.replicate_succ
abbrev DB:=@List.drop_succ_cons
abbrev GR:=@Option.isSome_iff_exists
abbrev xS:=@Nat.succ_mul
end Go.Ev
namespace Go.Ev
open Go
inductive K where
 | h
 | o (p:K)
 | i (p:K)
 deriving Inhabited
inductive V where
 | b (x:Bool)
 | i (k:IntKind) (n:Int)
 | s (l n:Nat)
 | np
 | p (b:K) (o:Nat)
 | ns
 | sl (b:K) (o l c:Nat)
 | su (b:K) (o l e:Nat)
 | nm
 | m (b:K)
 | nf
 | f (f:Nat) (a c:List V)
 | y (l:K)
 | ni
 | kY (t:Nat) (v:V)
 | a (l:List V)
 | u (l:List V)
 | q
 deriving Inhabited
inductive ax where
 | t (n:K)
 | c (v:V)
 deriving Inhabited
inductive EK where
 | bool | int | str | ptr | slice | map | func | iface
 deriving Inhabited
inductive ey where
 | one (k:EK)
 | agg (l:List (Nat×EK))
 deriving Inhabited
inductive N8 where
 | toInt (k:IntKind)
 | same
 | zE
 | JO (e:Nat)
 | zF
 | IY
 | IZ (u:Nat)
 deriving Inhabited
inductive XZ where
 | str
 | sl (esz:Nat)
 | arr (n esz:Nat)
 deriving Inhabited
inductive A where
 | mv (x:ax)
 | pick (c a b:ax)
 | new (e:Nat) (zs:List V)
 | BD (e:Nat) (x y:V)
 | I3 (x:ax)
 | zG (u:Nat) (p l:ax)
 | box (e:Nat) (x:ax)
 | bld (zs:List V) (ps:List (Nat×Nat×ax))
 | bsl (e:Nat) (zs:List V) (len:Nat) (ps:List (Nat×Nat×ax))
 | ld (agg:Bool) (sz:Nat) (a:ax)
 | st (sz:Nat) (a x:ax)
 | nck (x:ax)
 | bin (op:BinOp) (k:ey) (x y:ax)
 | un (op:UnOp) (x:ax)
 | cv (k:N8) (x:ax)
 | mif (t:Nat) (x:ax)
 | mfn (f:Nat) (a c:List ax)
 | mmap
 | msl (e esz bytes:Nat) (z:List V) (l c:ax)
 | sli (k:XZ) (x:ax) (lo hi mx:Option ax)
 | fad (off:Nat) (x:ax)
 | fld (agg:Bool) (off sz:Nat) (x:ax)
 | iad (arr:Option Nat) (esz:Nat) (x i:ax)
 | idx (arr:Option (Nat×Nat×Bool)) (x i:ax)
 | lkp (q:ey) (z:V) (ok:Bool) (m k:ax)
 | I4 (q:ey) (m k v:ax)
 | DC (Pj:Bool) (x:ax)
 | DD (str:Bool) (x:ax)
 | JP (x:ax)
 | tas (t:Nat) (z:V) (ok:Bool) (x:ax)
 | ext (x:ax) (n:Nat)
 | app (e esz bytes:Nat) (z:List V) (xT:Bool) (s x:ax)
 | A8 (esz:Nat) (d x:ax)
 | len (k:Nat) (x:ax)
 | cap (arr:Option Nat) (x:ax)
 | del (q:ey) (m k:ax)
 | mm (mx:Bool) (l:List ax)
 | I5 (z:List V) (x:ax)
 | cg (f:ax) (l:List ax)
 | wA (x:ax)
 | bad
 deriving Inhabited
structure AO where
 dst:Option K
 op:A
 guard:Option (K×Bool)
 Δ:Nat
 deriving Inhabited
inductive AC where
 | skip
 | reg (l:List AO)
 | regd (l:List AO)
 | seq (a b:AC)
 | cond (c:ax) (a b:AC)
 | block (id:Nat) (c:AC)
 | loop (c:AC)
 | lT (f:ax) (ps:List K) (as body:AC)
 | exit (id:Nat)
 | scope (c:AC)
 | ph (d:Option K) (x:ax) (l:List AO) (c:AC) (ws:List K)
 | ret
 | bad
 deriving Inhabited
inductive AR where
 | t (n:K)
 | cell (a:K) (agg:Bool) (sz:Nat)
 deriving Inhabited
structure AF where
 jD:List K
 res:List AR
 body:AC
 deriving Inhabited
structure BE where
 jD:List K
 res:List AR
 pre:List AO
 JQ:K
 g:Nat
 gN:List ax
 body:AC
 JR:List K
 JT:K
 JU:AC
 deriving Inhabited
inductive Ex where
 | normal
 | exit (id:Nat)
 | ret
 | panic (v:V)
 deriving Inhabited
inductive Tr(α:Type) where
 | e
 | n (v:Option α) (l r:Tr α)
 deriving Inhabited
def Tr.get{α:Type}:Tr α->K->Option α
 | .e,_=>none
 | .n v _ _,.h=>v
 | .n _ l _,.o p=>l.get p
 | .n _ _ r,.i p=>r.get p
def Tr.zH{α:Type}(v:Option α):K->Tr α
 | .h=>.n v .e .e
 | .o p=>.n none (Tr.zH v p) .e
 | .i p=>.n none .e (Tr.zH v p)
def Tr.put{α:Type}(v:Option α):Tr α->K->Tr α
 | .e,k=>Tr.zH v k
 | .n _ l r,.h=>.n v l r
 | .n w l r,.o p=>.n w (Tr.put v l p) r
 | .n w l r,.i p=>.n w l (Tr.put v r p)
inductive O where
 | c (l:List V) (e fz:Nat)
 | r (l:List V)
 | b (x y:V) (e:Nat)
 | mp (es:List (V×V×Nat)) (c:Nat)
 | mi (b:K) (c:Nat)
 | me (m:K) (c t:Nat)
 | it (l n pos:Nat)
 | lp (ready:Bool) (gC:Ex) (T:Tr V) (ps:List K) (as body:AC)
 deriving Inhabited
def K.succ:K->K
 | .h=>.o .h
 | .o p=>.i p
 | .i p=>.o p.succ
abbrev Hp:=Tr O
structure TE where
 args:List V
 n:K
 cA:Hp
 v:V
 add:Hp
 n':K
 deriving Inhabited
inductive Pm where
 | wB | same
 | km (l:List TE)
 | DE (cA:Hp) (v:V)
 deriving Inhabited
inductive bN where
 | go (f:AF)
 | pm (p:Pm)
 | zI (f:BE)
 deriving Inhabited
abbrev gm:=Option (V×Hp×K)
def nth{α:Type}:List α->Nat->Option α
 | [],_=>none
 | a::_,0=>some a
 | _::l,n+1=>nth l n
def takeN{α:Type}:Nat->List α->Option (List α)
 | 0,_=>some []
 | _+1,[]=>none
 | n+1,a::l=>match takeN n l with | some l'=>some (a::l') | none=>none
def pj{α:Type}:Nat->List α->Option (List α)
 | 0,l=>some l
 | _+1,[]=>none
 | n+1,_::l=>pj n l
def over{α:Type}:List α->List α->Option (List α)
 | [],l=>some l
 | _::_,[]=>none
 | v::vs,_::l=>match over vs l with | some l'=>some (v::l') | none=>none
def eK{α:Type}(vs:List α):List α->Nat->Option (List α)
 | l,0=>over vs l
 | [],_+1=>none
 | a::l,n+1=>match eK vs l n with | some l'=>some (a::l') | none=>none
def db{α:Type}(l:List α)(o n:Nat):Option (List α):=
 match pj o l with
 | some l'=>takeN n l'
 | none=>none
def V.cells:V->List V
 | .a l=>l
 | v=>[v]
def V.one:V->Bool
 | .a _ | .u _ | .q=>false
 | _=>true
def K.beq:K->K->Bool
 | .h,.h=>true
 | .o a,.o b=>a.beq b
 | .i a,.i b=>a.beq b
 | _,_=>false
def kn:IntKind->Nat
 | .i8=>0 | .i16=>1 | .i32=>2 | .i64=>3 | .u8=>4 | .u16=>5 | .u32=>6 | .u64=>7
def fits:IntKind->Int->Bool
 | .i64,.ofNat n=>Nat.ble n 9223372036854775807
 | .i64,.negSucc n=>Nat.ble n 9223372036854775807
 | .u8,.ofNat n=>Nat.ble n 255
 | .i32,.ofNat n=>Nat.ble n 2147483647
 | .i32,.negSucc n=>Nat.ble n 2147483647
 | .u32,.ofNat n=>Nat.ble n 4294967295
 | .u64,.ofNat n=>Nat.ble n 18446744073709551615
 | .u16,.ofNat n=>Nat.ble n 65535
 | _,_=>false
def wr(k:IntKind)(n:Int):Int:=bif fits k n then n else k.wrap n
def r8:Int->Int->Bool
 | .ofNat a,.ofNat b=>Nat.beq a b
 | .negSucc a,.negSucc b=>Nat.beq a b
 | _,_=>false
def xo:Int->Int->Bool
 | .ofNat a,.ofNat b=>Nat.blt a b
 | .negSucc a,.negSucc b=>Nat.blt b a
 | .negSucc _,.ofNat _=>true
 | .ofNat _,.negSucc _=>false
def DF(a b:Int):Bool:=!(xo b a)
def oo(op:BinOp)(k:IntKind)(x y:Int):Option V:=
 match op with
 | .add=>some (.i k (wr k (Int.add x y)))
 | .sub=>some (.i k (wr k (Int.sub x y)))
 | .mul=>some (.i k (wr k (Int.mul x y)))
 | .quo=>bif r8 y 0 then none else some (.i k (wr k (Int.tdiv x y)))
 | .rem=>bif r8 y 0 then none else some (.i k (Int.tmod x y))
 | .and=>some (.i k (wr k (Int.ofNat (BitVec.ofInt k.bits x &&& BitVec.ofInt k.bits y).toNat)))
 | .or=>some (.i k (wr k (Int.ofNat (BitVec.ofInt k.bits x ||| BitVec.ofInt k.bits y).toNat)))
 | .xor=>some (.i k (wr k (Int.ofNat (BitVec.ofInt k.bits x ^^^ BitVec.ofInt k.bits y).toNat)))
 | .andNot=>some (.i k (wr k (Int.ofNat (BitVec.ofInt k.bits x &&& ~~~BitVec.ofInt k.bits y).toNat)))
 | .eql=>some (.b (r8 x y))
 | .neq=>some (.b (!(r8 x y)))
 | .lss=>some (.b (xo x y))
 | .leq=>some (.b (DF x y))
 | .gtr=>some (.b (xo y x))
 | .geq=>some (.b (DF y x))
 | _=>none
def JV(op:BinOp)(k:IntKind)(x y:Int):Option V:=
 match y with
 | .negSucc _=>none
 | .ofNat m=>
  let n:=bif Nat.ble m k.bits then m else k.bits
  match op with
  | .shl=>some (.i k (wr k (Int.mul x (Int.ofNat (Nat.pow 2 n)))))
  | .shr=>some (.i k (Int.fdiv x (Int.ofNat (Nat.pow 2 n))))
  | _=>none
def slt:Nat->Nat->Nat->Nat->Bool
 | 0,_,l',_=>!(Nat.beq l' 0)
 | _+1,_,0,_=>false
 | l+1,n,l'+1,n'=>bif Nat.blt (Nat.mod n 256) (Nat.mod n' 256) then true
  else bif Nat.beq (Nat.mod n 256) (Nat.mod n' 256) then slt l (Nat.div n 256) l' (Nat.div n' 256) else false
def GS(op:BinOp)(l n l' n':Nat):Option V:=
 match op with
 | .add=>bif Nat.ble (Nat.add l l') 9223372036854775807 then some (.s (Nat.add l l') (Nat.add n (Nat.mul n' (Nat.pow 256 l)))) else none
 | .eql=>some (.b (Nat.beq l l'&&Nat.beq n n'))
 | .neq=>some (.b (!(Nat.beq l l'&&Nat.beq n n')))
 | .lss=>some (.b (slt l n l' n'))
 | .leq=>some (.b (slt l n l' n'||(Nat.beq l l'&&Nat.beq n n')))
 | .gtr=>some (.b (!(slt l n l' n'||(Nat.beq l l'&&Nat.beq n n'))))
 | .geq=>some (.b (!(slt l n l' n')))
 | _=>none
def I6(n i:Nat):Nat:=Nat.mod (Nat.div n (Nat.pow 256 i)) 256
def DG(n a b:Nat):Nat:=Nat.mod (Nat.div n (Nat.pow 256 a)) (Nat.pow 256 (Nat.sub b a))
def BF:Nat->Nat->List V
 | 0,_=>[]
 | l+1,n=>.i .u8 (Int.ofNat (Nat.mod n 256))::BF l (Nat.div n 256)
def ofBytes:List V->Option Nat
 | []=>some 0
 | .i .u8 (.ofNat b)::l=>match ofBytes l with
  | some n=>bif Nat.blt b 256 then some (Nat.add b (Nat.mul 256 n)) else none
  | none=>none
 | _::_=>none
def da:EK->V->V->Option Bool
 | .bool,.b x,.b y=>some (x==y)
 | .int,.i k x,.i k' y=>bif Nat.beq (kn k) (kn k') then some (r8 x y) else none
 | .str,.s l n,.s l' n'=>some (Nat.beq l l'&&Nat.beq n n')
 | .ptr,.np,.np=>some true
 | .ptr,.np,.p _ _=>some false
 | .ptr,.p _ _,.np=>some false
 | .ptr,.p b o,.p b' o'=>bif K.beq b b' then some (Nat.beq o o') else none
 | .slice,.ns,.ns=>some true
 | .slice,.ns,.sl _ _ _ _=>some false
 | .slice,.ns,.su _ _ _ _=>some false
 | .slice,.sl _ _ _ _,.ns=>some false
 | .slice,.su _ _ _ _,.ns=>some false
 | .map,.nm,.nm=>some true
 | .map,.nm,.m _=>some false
 | .map,.m _,.nm=>some false
 | .func,.nf,.nf=>some true
 | .func,.nf,.f _ _ _=>some false
 | .func,.f _ _ _,.nf=>some false
 | .iface,.ni,.kY _ _=>some false
 | .iface,.kY _ _,.ni=>some false
 | .iface,.ni,.ni=>some true
 | _,_,_=>none
def CW(xs ys:List V):List (Nat×EK)->Option Bool
 | []=>some true
 | (i,q)::l=>match nth xs i,nth ys i with
  | some x,some y=>match da q x y with
   | some true=>CW xs ys l
   | some false=>some false
   | none=>none
  | _,_=>none
def mw(k:ey)(x y:V):Option Bool:=
 match k with
 | .one q=>da q x y
 | .agg l=>match x,y with
  | .a xs,.a ys=>CW xs ys l
  | _,_=>none
def pk(op:BinOp)(k:ey)(x y:V):Option V:=
 match op,x,y with
 | .shl,.i k a,.i _ b=>JV .shl k a b
 | .shr,.i k a,.i _ b=>JV .shr k a b
 | op,.i k a,.i k' b=>bif Nat.beq (kn k) (kn k') then oo op k a b else none
 | op,.s l n,.s l' n'=>GS op l n l' n'
 | .eql,x,y=>match mw k x y with | some b=>some (.b b) | none=>none
 | .neq,x,y=>match mw k x y with | some b=>some (.b (!b)) | none=>none
 | _,_,_=>none
def JW(op:UnOp)(x:V):Option V:=
 match op,x with
 | .neg,.i k n=>some (.i k (wr k (Int.sub 0 n)))
 | .not,.b b=>some (.b (!b))
 | .xor,.i k n=>oo .xor k (if k.signed then -1 else k.max) n
 | _,_=>none
def O.row:O->Option (List V)
 | .c l _ _=>some l
 | .r l=>some l
 | .b x y _=>some [x,y]
 | _=>none
def rowAt(H:Hp)(b:K):Option (List V):=
 match H.get b with
 | some o=>o.row
 | none=>none
def wc(H:Hp)(agg:Bool)(sz:Nat):V->Option V
 | .p b o=>match rowAt H b with
  | some l=>bif agg then (match db l o sz with | some l'=>some (.a l') | none=>none) else nth l o
  | none=>none
 | _=>none
def bE:List V->Bool
 | []=>true
 | v::l=>v.one&&bE l
def iu(H:Hp)(b:K)(o:Nat)(vs:List V):Option Hp:=
 match H.get b with
 | some (.c l e fz)=>bif Nat.ble fz o&&bE vs then
  (match eK vs l o with | some l'=>some (H.put (some (.c l' e fz)) b) | none=>none) else none
 | some (.b x y e)=>bif bE vs then
  (match eK vs [x,y] o with | some [x',y']=>some (H.put (some (.b x' y' e)) b) | _=>none) else none
 | _=>none
def CX(H:Hp)(sz:Nat)(a x:V):Option Hp:=
 match a with
 | .p b o=>bif Nat.beq x.cells.length sz then iu H b o x.cells else none
 | _=>none
def kp(H:Hp)(n:K)(o:O)(v:V):gm:=some (v,H.put (some o) n,n.succ)
def aq(T:Tr V):ax->Option V
 | .t k=>T.get k
 | .c v=>some v
def fD(T:Tr V):List ax->Option (List V)
 | []=>some []
 | x::l=>match aq T x,fD T l with
  | some v,some vs=>some (v::vs)
  | _,_=>none
def rn(T:Tr V)(zs:List V):List (Nat×Nat×ax)->Option (List V)
 | []=>some zs
 | (o,sz,x)::ps=>match aq T x with
  | some v=>bif Nat.beq v.cells.length sz&&bE v.cells then (match eK v.cells zs o with | some I7=>rn T I7 ps | none=>none) else none
  | none=>none
def iw(z:List V):Nat->List V
 | 0=>[]
 | n+1=>z++iw z n
def JX:V->Option Nat
 | .i _ (.ofNat n)=>some n
 | _=>none
def dH(T:Tr V)(d:Nat):Option ax->Option Nat
 | none=>some d
 | some x=>match aq T x with | some v=>JX v | none=>none
def oq(k:XZ)(T:Tr V)(x:V)(lo hi mx:Option ax):Option V:=
 match k,x with
 | .str,.s l n=>match dH T 0 lo,dH T l hi,mx with
  | some a,some b,none=>bif Nat.ble a b&&Nat.ble b l then some (.s (Nat.sub b a) (DG n a b)) else none
  | _,_,_=>none
 | .sl _,.ns=>match dH T 0 lo,dH T 0 hi,dH T 0 mx with
  | some 0,some 0,some 0=>some .ns
  | _,_,_=>none
 | .sl z,.sl b o l c=>match dH T 0 lo,dH T l hi,dH T c mx with
  | some p,some q,some m=>bif Nat.ble p q&&Nat.ble q m&&Nat.ble m c then
   some (.sl b (bif Nat.beq m p then o else Nat.add o (Nat.mul p z)) (Nat.sub q p) (Nat.sub m p)) else none
  | _,_,_=>none
 | .sl z,.su b o l e=>match mx with
  | none=>match dH T 0 lo,dH T l hi with
   | some p,some q=>bif Nat.ble p q&&Nat.ble q l&&Nat.beq z e then some (.su b (Nat.add o (Nat.mul p z)) (Nat.sub q p) e) else none
   | _,_=>none
  | some m=>match dH T 0 lo,dH T l hi,dH T 0 (some m) with
   | some p,some q,some m=>bif Nat.ble p q&&Nat.ble q m&&Nat.ble m l&&Nat.beq z e then
    bif Nat.beq l 0 then some (.su b o 0 e) else some (.sl b (bif Nat.beq m p then o else Nat.add o (Nat.mul p z)) (Nat.sub q p) (Nat.sub m p)) else none
   | _,_,_=>none
 | .arr n z,.p b o=>match dH T 0 lo,dH T n hi,dH T n mx with
  | some p,some q,some m=>bif Nat.ble p q&&Nat.ble q m&&Nat.ble m n then
   some (.sl b (bif Nat.beq m p then o else Nat.add o (Nat.mul p z)) (Nat.sub q p) (Nat.sub m p)) else none
  | _,_,_=>none
 | _,_=>none
def elems(H:Hp)(z:Nat):V->Option (Nat×List V)
 | .ns=>some (0,[])
 | .sl b o l _=>match rowAt H b with
  | some r=>match db r o (Nat.mul l z) with | some vs=>some (l,vs) | none=>none
  | none=>none
 | .su b o l e=>bif Nat.beq e z then (bif Nat.beq l 0 then some (0,[]) else match rowAt H b with
  | some r=>match db r o (Nat.mul l z) with | some vs=>some (l,vs) | none=>none
  | none=>none) else none
 | .s l n=>bif Nat.beq z 1 then some (l,BF l n) else none
 | _=>none
def V.len:V->Nat
 | .sl _ _ l _ | .su _ _ l _=>l
 | _=>0
def wC(H:Hp)(n:K)(e z bytes:Nat)(s:V)(m:Nat)(new:List V):gm:=
 bif !(Nat.ble (Nat.mul (Nat.add s.len m) bytes) 1000000000&&Nat.ble bytes 100000&&Nat.ble (Nat.add s.len m) 1000000000) then none else
 match s with
 | .ns=>bif Nat.beq m 0 then some (.ns,H,n) else kp H n (.c new e 0) (.su n 0 m z)
 | .sl b o l c=>
  bif Nat.ble (Nat.add l m) c then
   (bif Nat.beq m 0 then some (.sl b o l c,H,n) else match iu H b (Nat.add o (Nat.mul l z)) new with | some H'=>some (.sl b o (Nat.add l m) c,H',n) | none=>none)
  else match elems H z (.sl b o l c) with
   | some (_,dR)=>kp H n (.c (dR++new) e 0) (.su n 0 (Nat.add l m) z)
   | none=>none
 | .su b o l z'=>
  bif Nat.beq m 0 then some (.su b o l z',H,n) else
  match H.get b with
  | some (.c r e' fz)=>bif Nat.beq e e'&&Nat.beq z z'&&Nat.ble fz (Nat.add o (Nat.mul l z))&&bE new then
   (match db r o (Nat.mul l z) with
   | some dR=>kp (H.put none b) n (.c (dR++new) e (Nat.sub fz o)) (.su n 0 (Nat.add l m) z)
   | none=>none) else none
  | _=>none
 | _=>none
def BG(q:ey)(k:V):List (V×V×Nat)->Option (Option V)
 | []=>some none
 | (k',v,_)::es=>match mw q k k' with
  | some true=>some (some v)
  | some false=>BG q k es
  | none=>none
def GU(t:Nat):List (V×V×Nat)->Option (V×V)
 | []=>none
 | (k,v,t')::es=>bif Nat.beq t' t then some (k,v) else GU t es
def DH(q:ey)(k v:V)(c:Nat):List (V×V×Nat)->Option (List (V×V×Nat)×Bool)
 | []=>some ([(k,v,c)],true)
 | (k',v',t)::es=>match mw q k k' with
  | some true=>match q with | .one _=>some ((k,v,t)::es,false) | .agg _=>none
  | some false=>match DH q k v c es with | some (gw,b)=>some ((k',v',t)::gw,b) | none=>none
  | none=>none
def DI(q:ey)(k:V):List (V×V×Nat)->Option (List (V×V×Nat))
 | []=>some []
 | (k',v',t)::es=>match mw q k k' with
  | some true=>some es
  | some false=>match DI q k es with | some gw=>some ((k',v',t)::gw) | none=>none
  | none=>none
def hasAll(xs:List V):List (Nat×EK)->Bool
 | []=>true
 | (i,_)::l=>(match nth xs i with | some _=>true | none=>false)&&hasAll xs l
def ot:ey->V->Bool
 | .one _,_=>true
 | .agg l,.a xs=>hasAll xs l
 | _,_=>false
def dX(H:Hp)(n:K):Option V->gm
 | some v=>some (v,H,n)
 | none=>none
def qd(n:K):Option Hp->gm
 | some H=>some (.u [],H,n)
 | none=>none
def N9(mx:Bool):V->V->Option V
 | .i k x,.i _ y=>some (.i k (bif (bif mx then xo x y else xo y x) then y else x))
 | _,_=>none
def BH(f:V->V->Option V)(a:V):List V->Option V
 | []=>some a
 | v::l=>match f a v with | some a'=>BH f a' l | none=>none
def rune(l n:Nat):Nat×Nat:=
 let b0:=Nat.mod n 256;let b1:=Nat.mod (Nat.div n 256) 256;let b2:=Nat.mod (Nat.div n 65536) 256;let b3:=Nat.mod (Nat.div n 16777216) 256
 bif Nat.blt b0 128 then (b0,1)
 else bif Nat.beq (Nat.div b0 32) 6&&(Nat.blt 1 l&&Nat.beq (Nat.div b1 64) 2) then
  let c:=(b0 % 32)*64+b1 % 64
  bif Nat.ble 128 c then (c,2) else (65533,1)
 else bif Nat.beq (Nat.div b0 16) 14&&(Nat.blt 1 l&&Nat.beq (Nat.div b1 64) 2)&&(Nat.blt 2 l&&Nat.beq (Nat.div b2 64) 2) then
  let c:=(b0 % 16)*4096+(b1 % 64)*64+b2 % 64
  bif Nat.ble 2048 c&&(Nat.blt c 55296||(Nat.ble 57344 c&&Nat.ble c 1114111)) then (c,3) else (65533,1)
 else bif Nat.beq (Nat.div b0 8) 30&&(Nat.blt 1 l&&Nat.beq (Nat.div b1 64) 2)&&(Nat.blt 2 l&&Nat.beq (Nat.div b2 64) 2)&&(Nat.blt 3 l&&Nat.beq (Nat.div b3 64) 2) then
  let c:=(b0 % 8)*262144+(b1 % 64)*4096+(b2 % 64)*64+b3 % 64
  bif Nat.ble 65536 c&&Nat.ble c 1114111 then (c,4) else (65533,1)
 else (65533,1)
def wD:Nat->Nat->Nat->List V
 | 0,_,_=>[]
 | f+1,l,n=>bif Nat.beq l 0 then [] else
  let r:=rune l n
  .i .i32 (Int.ofNat r.1)::wD f (Nat.sub l r.2) (Nat.div n (Nat.pow 256 r.2))
def sH(m:Nat):Bool:=Nat.blt m 55296||(Nat.ble 57344 m&&Nat.ble m 1114111)
def pn(m:Nat):Nat:=bif Nat.blt m 128 then 1 else bif Nat.blt m 2048 then 2 else bif Nat.blt m 65536 then 3 else 4
def sI(m:Nat):Nat:=
 bif Nat.blt m 128 then m
 else bif Nat.blt m 2048 then (192+m / 64)+256*(128+m % 64)
 else bif Nat.blt m 65536 then (224+m / 4096)+256*((128+m / 64 % 64)+256*(128+m % 64))
 else (240+m / 262144)+256*((128+m / 4096 % 64)+256*((128+m / 64 % 64)+256*(128+m % 64)))
def qR(H:Hp)(n:K)(k:N8)(x:V):gm:=
 match k,x with
 | .toInt k,.i _ m=>some (.i k (wr k m),H,n)
 | .same,.s l m=>some (.s l m,H,n)
 | .zE,.s _ _=>none
 | .zE,x=>match elems H 1 x with
  | some (l,vs)=>match ofBytes vs with | some m=>some (.s l m,H,n) | none=>none
  | none=>none
 | .JO e,.s l m=>let rs:=wD l l m;kp H n (.c rs e 0) (.su n 0 rs.length 1)
 | .zF,.i _ (.ofNat m)=>bif sH m then some (.s (pn m) (sI m),H,n) else none
 | .IY,.np=>some (.np,H,n)
 | .IY,.p b 0=>match H.get b with | some (.b _ _ _)=>some (.p b 0,H,n) | _=>none
 | .IZ _,.np=>some (.np,H,n)
 | .IZ u,.p b 0=>match H.get b with | some (.b _ _ e)=>(bif Nat.beq e u then some (.p b 0,H,n) else none) | _=>none
 | _,_=>none
def zJ(ok:Bool)(v:V)(b:Bool):V:=bif ok then .u [v,.b b] else v
def simple(op:A)(T:Tr V)(H:Hp)(n:K):gm:=
 match op with
 | .mv x=>dX H n (aq T x)
 | .pick c a b=>match aq T c with
  | some (.b x)=>dX H n (aq T (bif x then a else b))
  | _=>none
 | .new e zs=>kp H n (.c zs e 0) (.p n 0)
 | .BD e x y=>kp H n (.b x y e) (.p n 0)
 | .I3 x=>match aq T x with
  | some .ns=>some (.np,H,n)
  | some (.sl b o _ c)=>bif Nat.beq c 0 then none else some (.p b o,H,n)
  | some (.su b o l _)=>bif Nat.beq l 0 then none else some (.p b o,H,n)
  | _=>none
 | .zG u p l=>match aq T p,aq T l with
  | some .np,some (.i _ (.ofNat 0))=>some (.s 0 0,H,n)
  | some (.p b o),some (.i _ (.ofNat m))=>bif Nat.beq m 0 then some (.s 0 0,H,n) else match H.get b with
   | some (.c r e fz)=>bif Nat.beq e u&&Nat.ble m 9223372036854775807 then (match db r o m with
    | some vs=>match ofBytes vs with
     | some q=>some (.s m q,H.put (some (.c r e (bif Nat.ble fz (Nat.add o m) then Nat.add o m else fz))) b,n)
     | none=>none
    | none=>none) else none
   | _=>none
  | _,_=>none
 | .box e x=>match aq T x with
  | some v=>bif bE v.cells then kp H n (.c v.cells e 0) (.p n 0) else none
  | none=>none
 | .bld zs ps=>match rn T zs ps with | some l=>some (.a l,H,n) | none=>none
 | .bsl e zs len ps=>match rn T zs ps with | some l=>kp H n (.c l e 0) (.sl n 0 len len) | none=>none
 | .ld agg sz a=>match aq T a with | some v=>dX H n (wc H agg sz v) | none=>none
 | .st sz a x=>match aq T a,aq T x with
  | some a,some x=>qd n (CX H sz a x)
  | _,_=>none
 | .nck x=>match aq T x with
  | some (.p b o)=>some (.p b o,H,n)
  | some (.f g a c)=>some (.f g a c,H,n)
  | some (.y l)=>some (.y l,H,n)
  | _=>none
 | .bin op k x y=>match aq T x,aq T y with
  | some x,some y=>dX H n (pk op k x y)
  | _,_=>none
 | .un op x=>match aq T x with | some v=>dX H n (JW op v) | none=>none
 | .cv k x=>match aq T x with | some v=>qR H n k v | none=>none
 | .mif t x=>match aq T x with | some v=>some (.kY t v,H,n) | none=>none
 | .mfn f a c=>match fD T a,fD T c with
  | some a,some c=>some (.f f a c,H,n)
  | _,_=>none
 | .mmap=>kp H n (.mp [] 0) (.m n)
 | .msl e _ bytes z l c=>match aq T l,aq T c with
  | some (.i _ (.ofNat l)),some (.i _ (.ofNat c))=>bif Nat.ble l c&&Nat.ble (Nat.mul c bytes) 140737488355328&&Nat.ble c 9223372036854775807 then kp H n (.c (iw z c) e 0) (.sl n 0 l c) else none
  | _,_=>none
 | .sli k x lo hi mx=>match aq T x with | some v=>dX H n (oq k T v lo hi mx) | none=>none
 | .fad off x=>match aq T x with | some (.p b o)=>some (.p b (Nat.add o off),H,n) | _=>none
 | .fld agg off sz x=>match aq T x with
  | some (.a l)=>bif agg then (match db l off sz with | some l'=>some (.a l',H,n) | none=>none) else dX H n (nth l off)
  | _=>none
 | .iad arr z x i=>match aq T x,aq T i with
  | some x,some (.i _ (.ofNat i))=>match arr,x with
   | some m,.p b o=>bif Nat.blt i m then some (.p b (Nat.add o (Nat.mul i z)),H,n) else none
   | none,.sl b o l _=>bif Nat.blt i l then some (.p b (Nat.add o (Nat.mul i z)),H,n) else none
   | none,.su b o l _=>bif Nat.blt i l then some (.p b (Nat.add o (Nat.mul i z)),H,n) else none
   | _,_=>none
  | _,_=>none
 | .idx arr x i=>match aq T x,aq T i with
  | some x,some (.i _ (.ofNat i))=>match arr,x with
   | none,.s l m=>bif Nat.blt i l then some (.i .u8 (Int.ofNat (I6 m i)),H,n) else none
   | some (m,z,agg),.a l=>bif Nat.blt i m then
    (bif agg then (match db l (Nat.mul i z) z with | some l'=>some (.a l',H,n) | none=>none) else dX H n (nth l (Nat.mul i z))) else none
   | _,_=>none
  | _,_=>none
 | .lkp q z ok m k=>match aq T m,aq T k with
  | some .nm,some k=>bif ot q k then some (zJ ok z false,H,n) else none
  | some (.m b),some k=>bif ot q k then (match H.get b with
   | some (.mp es _)=>match BG q k es with
    | some (some v)=>some (zJ ok v true,H,n)
    | some none=>some (zJ ok z false,H,n)
    | none=>none
   | _=>none) else none
  | _,_=>none
 | .I4 q m k v=>match aq T m,aq T k,aq T v with
  | some (.m b),some k,some v=>bif ot q k then (match H.get b with
   | some (.mp es c)=>match DH q k v c es with | some (gw,new)=>some (.u [],H.put (some (.mp gw (bif new then Nat.succ c else c))) b,n) | none=>none
   | _=>none) else none
  | _,_,_=>none
 | .DC Pj x=>match Pj,aq T x with
  | false,some (.s l m)=>kp H n (.it l m 0) (.p n 0)
  | true,some (.m b)=>match H.get b with
   | some (.mp _ c)=>kp H n (.mi b c) (.p n 0)
   | _=>none
  | _,_=>none
 | .DD str x=>match str,aq T x with
  | true,some (.p b 0)=>match H.get b with
   | some (.it l m pos)=>bif Nat.blt pos l then
    (let r:=rune (Nat.sub l pos) (Nat.div m (Nat.pow 256 pos))
     some (.u [.b true,.i .i64 (Int.ofNat pos),.i .i32 (Int.ofNat r.1)],H.put (some (.it l m (Nat.add pos r.2))) b,n))
    else some (.u [.b false],H,n)
   | _=>none
  | _,_=>none
 | .JP x=>match aq T x with
  | some (.p b 0)=>match H.get b with
   | some (.me m c t)=>match H.get m with
    | some (.mp es c')=>bif Nat.beq c c' then (match GU t es with | some (k,v)=>some (.u [k,v],H,n) | none=>none) else none
    | _=>none
   | _=>none
  | _=>none
 | .tas t z ok x=>match aq T x with
  | some .ni=>bif ok then some (.u [z,.b false],H,n) else none
  | some (.kY t' v)=>bif Nat.beq t t' then some (zJ ok v true,H,n) else bif ok then some (.u [z,.b false],H,n) else none
  | _=>none
 | .ext x i=>match aq T x with | some (.u l)=>dX H n (nth l i) | _=>none
 | .app e z bytes zl xT s x=>match aq T s,aq T x with
  | some s,some x=>bif xT then (match x with | .i _ (.ofNat m)=>wC H n e z bytes s m (iw zl m) | _=>none)
   else (match elems H z x with | some (m,new)=>wC H n e z bytes s m new | none=>none)
  | _,_=>none
 | .A8 z d x=>match aq T d,aq T x with
  | some (.s _ _),_=>none
  | some d,some x=>match elems H z d,elems H z x with
   | some (ld,_),some (lx,vs)=>
    let m:=bif Nat.ble lx ld then lx else ld
    bif Nat.beq m 0 then some (.i .i64 0,H,n) else
    match takeN (Nat.mul m z) vs,d with
    | some vs,.sl b o _ _=>match iu H b o vs with | some H=>some (.i .i64 (Int.ofNat m),H,n) | none=>none
    | some vs,.su b o _ _=>match iu H b o vs with | some H=>some (.i .i64 (Int.ofNat m),H,n) | none=>none
    | _,_=>none
   | _,_=>none
  | _,_=>none
 | .len k x=>match k,aq T x with
  | 0,some (.s l _)=>some (.i .i64 (Int.ofNat l),H,n)
  | 1,some .ns=>some (.i .i64 0,H,n)
  | 1,some (.sl _ _ l _)=>some (.i .i64 (Int.ofNat l),H,n)
  | 1,some (.su _ _ l _)=>some (.i .i64 (Int.ofNat l),H,n)
  | 2,some .nm=>some (.i .i64 0,H,n)
  | 2,some (.m b)=>match H.get b with | some (.mp es _)=>some (.i .i64 (Int.ofNat es.length),H,n) | _=>none
  | _,_=>none
 | .cap arr x=>match arr with
  | some m=>some (.i .i64 (Int.ofNat m),H,n)
  | none=>match aq T x with
   | some .ns=>some (.i .i64 0,H,n)
   | some (.sl _ _ _ c)=>some (.i .i64 (Int.ofNat c),H,n)
   | _=>none
 | .del q m k=>match aq T m,aq T k with
  | some .nm,some k=>bif ot q k then some (.u [],H,n) else none
  | some (.m b),some k=>bif ot q k then (match H.get b with
   | some (.mp es c)=>match DI q k es with | some gw=>some (.u [],H.put (some (.mp gw c)) b,n) | none=>none
   | _=>none) else none
  | _,_=>none
 | .mm mx l=>match fD T l with
  | some (v::vs)=>dX H n (BH (N9 mx) v vs)
  | _=>none
 | .I5 z x=>match aq T x with
  | some .ns=>some (.u [],H,n)
  | some .nm=>some (.u [],H,n)
  | some (.sl b o l _)=>bif Nat.beq l 0 then some (.u [],H,n) else qd n (iu H b o (iw z l))
  | some (.su b o l _)=>bif Nat.beq l 0 then some (.u [],H,n) else qd n (iu H b o (iw z l))
  | _=>none
 | .cg _ _=>none
 | .wA _=>none
 | .bad=>none
inductive F5 where
 | code (c:AC) (T:Tr V)
 | call (f:V) (l:List V)
 deriving Inhabited
structure R where
 ex:Ex
 T:Tr V
 v:V
 H:Hp
 n:K
 deriving Inhabited
abbrev dY:=F5->Hp->K->Option R
def eg(d:Option K)(v:Option V)(T:Tr V):Tr V:=
 match d with
 | some k=>T.put v k
 | none=>T
def want(g:Option (K×Bool))(T:Tr V):Option Bool:=
 match g with
 | none=>some true
 | some (k,w)=>match T.get k with
  | some (.b x)=>some (bif w then x else !x)
  | some (.u [])=>some false
  | _=>none
def eC(ih:dY)(op:A)(T:Tr V)(H:Hp)(n:K):Option R:=
 match op with
 | .cg f l=>match aq T f,fD T l with
  | some f,some l=>ih (.call f l) H n
  | _,_=>none
 | .wA x=>match aq T x with
  | some (.kY t v)=>some ⟨.panic (.kY t v),.e,.q,H,n⟩
  | _=>none
 | op=>match simple op T H n with
  | some (v,H,n)=>some ⟨.normal,.e,v,H,n⟩
  | none=>none
def oper(ih:dY)(op:A)(T:Tr V)(H:Hp)(n:K):gm:=
 match eC ih op T H n with
 | some ⟨.normal,_,v,H,n⟩=>some (v,H,n)
 | _=>none
def fZ(ih:dY):List AO->Tr V->Hp->K->Option R
 | [],T,H,n=>some ⟨.normal,T,.q,H,n⟩
 | o::l,T,H,n=>match want o.guard T with
  | some true=>match eC ih o.op T H n with
   | some ⟨.normal,_,v,H,n⟩=>fZ ih l (eg o.dst (some v) T) H n
   | some ⟨.panic v,_,_,H,n⟩=>some ⟨.panic v,T,.q,H,n⟩
   | _=>none
  | some false=>fZ ih l (eg o.dst (some (.u [])) T) H n
  | none=>none
inductive Cls where
 | pure | make | read | kq
def cls:A->Cls
 | .mv _ | .pick _ _ _ | .bld _ _ | .nck _ | .bin _ _ _ _ | .un _ _ | .mif _ _ | .mfn _ _ _ | .sli _ _ _ _ _ | .fad _ _ | .fld _ _ _ _
 | .iad _ _ _ _ | .idx _ _ _ | .tas _ _ _ _ | .ext _ _ | .mm _ _ | .cap _ _=>.pure
 | .new _ _ | .box _ _ | .bsl _ _ _ _ | .mmap | .msl _ _ _ _ _ _=>.make
 | .ld _ _ _ | .lkp _ _ _ _ _ | .len _ _=>.read
 | .cv (.toInt _) _ | .cv .same _ | .cv .zF _=>.pure
 | .cv .zE _=>.read
 | _=>.kq
mutual
def cT:V->V->Bool
 | .b x,.b y=>x==y
 | .i k x,.i k' y=>Nat.beq (kn k) (kn k')&&r8 x y
 | .s l n,.s l' n'=>Nat.beq l l'&&Nat.beq n n'
 | .np,.np=>true
 | .p b o,.p b' o'=>b.beq b'&&Nat.beq o o'
 | .ns,.ns=>true
 | .sl b o l c,.sl b' o' l' c'=>b.beq b'&&Nat.beq o o'&&Nat.beq l l'&&Nat.beq c c'
 | .su b o l c,.su b' o' l' c'=>b.beq b'&&Nat.beq o o'&&Nat.beq l l'&&Nat.beq c c'
 | .nm,.nm=>true
 | .m b,.m b'=>b.beq b'
 | .nf,.nf=>true
 | .f g a c,.f g' a' c'=>Nat.beq g g'&&kG a a'&&kG c c'
 | .ni,.ni=>true
 | .kY t v,.kY t' v'=>Nat.beq t t'&&cT v v'
 | .a l,.a l'=>kG l l'
 | .u l,.u l'=>kG l l'
 | _,_=>false
def kG:List V->List V->Bool
 | [],[]=>true
 | a::l,a'::l'=>cT a a'&&kG l l'
 | _,_=>false
end
def K.cmp:Bool->K->K->Bool
 | f,.h,.h=>f
 | _,.h,_=>true
 | _,_,.h=>false
 | f,.o a,.o b=>K.cmp f a b
 | f,.i a,.i b=>K.cmp f a b
 | _,.o a,.i b=>K.cmp true a b
 | _,.i a,.o b=>K.cmp false a b
mutual
def bB (n:K):V->Bool
 | .p b _ | .sl b _ _ _ | .su b _ _ _ | .m b | .y b=>K.cmp false b n
 | .f _ a c=>gn n a&&gn n c
 | .kY _ v=>bB n v
 | .a l | .u l=>gn n l
 | _=>true
def gn (n:K):List V->Bool
 | []=>true
 | v::l=>bB n v&&gn n l
end
abbrev Made:=List (K×Nat)
def dT(H:Hp)(Δ:Nat):Made->Hp
 | []=>H
 | (k,i)::l=>bif Nat.testBit Δ i then dT H Δ l else dT (H.put none k) Δ l
def back(H H':Hp)(Δ:Nat):Made->Hp
 | []=>H'
 | (k,i)::l=>bif Nat.testBit Δ i then back H H' Δ l else back H (H'.put (H.get k) k) Δ l
structure Rd where
 i:Nat
 op:A
 Δ:Nat
 T:Tr V
 v:V
structure Bg where
 i:Nat
 Δ:Nat
 H:Hp
 H':Hp
def DJ(r:Rd)(H:Hp)(m:Made):Bool:=
 match simple r.op r.T (dT H r.Δ m) .h with
 | some (v,_,_)=>cT v r.v
 | none=>false
def BI(m:Made)(r:Rd)(b:Bg):Bool:=
 Nat.testBit r.Δ b.i||Nat.testBit b.Δ r.i||(DJ r b.H m&&DJ r b.H' m)
def wE(m:Made)(rs:List Rd)(bs:List Bg):Bool:=rs.all λr=>bs.all λb=>BI m r b
def eY(ih:dY):List AO->Nat->Tr V->Hp->K->Made->List Rd->List Bg->Option R
 | [],_,T,H,n,m,rs,bs=>bif wE m rs bs then some ⟨.normal,T,.q,H,n⟩ else none
 | o::l,i,T,H,n,m,rs,bs=>match want o.guard T with
  | some true=>match oper ih o.op T (dT H o.Δ m) n with
   | some (v,H',n')=>
    let qe:=back H H' o.Δ m
    match cls o.op with
    | .pure=>eY ih l (Nat.succ i) (eg o.dst (some v) T) H n m rs bs
    | .read=>bif bB n v then eY ih l (Nat.succ i) (eg o.dst (some v) T) H n m (⟨i,o.op,o.Δ,T,v⟩::rs) bs else none
    | .make=>eY ih l (Nat.succ i) (eg o.dst (some v) T) qe n' ((n,i)::m) rs bs
    | .kq=>eY ih l (Nat.succ i) (eg o.dst (some v) T) qe n' m rs (⟨i,o.Δ,H,qe⟩::bs)
   | none=>none
  | some false=>eY ih l (Nat.succ i) (eg o.dst (some (.u [])) T) H n m rs bs
  | none=>none
def JY:V×V×Nat->V×V×Nat->Bool
 | (a,b,c),(a',b',c')=>cT a a'&&cT b b'&&Nat.beq c c'
def I8:List (V×V×Nat)->List (V×V×Nat)->Bool
 | [],[]=>true
 | a::l,a'::l'=>JY a a'&&I8 l l'
 | _,_=>false
def wF(a b:O):Bool:=
 match a with
 | .c l e fz=>(match b with | .c l' e' fz'=>kG l l'&&Nat.beq e e'&&Nat.beq fz fz' | _=>false)
 | .r l=>(match b with | .r l'=>kG l l' | _=>false)
 | .b x y e=>(match b with | .b x' y' e'=>cT x x'&&cT y y'&&Nat.beq e e' | _=>false)
 | .mp es c=>(match b with | .mp gw c'=>I8 es gw&&Nat.beq c c' | _=>false)
 | .mi b1 c=>(match b with | .mi b' c'=>b1.beq b'&&Nat.beq c c' | _=>false)
 | .me m c t=>(match b with | .me m' c' t'=>m.beq m'&&Nat.beq c c'&&Nat.beq t t' | _=>false)
 | .it l n p=>(match b with | .it l' n' p'=>Nat.beq l l'&&Nat.beq n n'&&Nat.beq p p' | _=>false)
 | .lp _ _ _ _ _ _=>false
def fP{α:Type}(eq:α->α->Bool):Tr α->Tr α->Bool
 | .e,_=>true
 | .n v l r,.e=>(match v with | none=>true | some _=>false)&&fP eq l .e&&fP eq r .e
 | .n v l r,.n v' l' r'=>(match v,v' with | none,_=>true | some a,some a'=>eq a a' | _,_=>false)&&fP eq l l'&&fP eq r r'
def erase(T:Tr V):List K->Tr V
 | []=>T
 | k::l=>erase (T.put none k) l
def xU(dc:Nat):Nat->List (V×V×Nat)->Bool
 | _,[]=>true
 | lo,(_,_,t)::es=>Nat.ble lo t&&Nat.blt t dc&&xU dc (Nat.succ t) es
def sJ(T:Tr V)(x:ax)(b:K):Bool:=
 match aq T x with
 | some (.p b' 0)=>K.beq b b'
 | _=>false
def DK(go:V×V×Nat->Option R)(T:Tr V)(H:Hp):List (V×V×Nat)->Bool
 | []=>true
 | e::es=>(match go e with
  | some ⟨.normal,T',_,H',_⟩=>fP cT T T'&&fP wF H H'
  | _=>false)&&DK go T H es
def binds:List K->List V->Tr V->Option (Tr V)
 | _,[],T=>some T
 | k::ks,v::vs,T=>binds ks vs (T.put (some v) k)
 | [],_::_,_=>none
def result(T:Tr V)(H:Hp):AR->Option V
 | .t k=>T.get k
 | .cell k agg sz=>match T.get k with
  | some a=>wc H agg sz a
  | none=>none
def xV(T:Tr V)(H:Hp):List AR->Option (List V)
 | []=>some []
 | r::l=>match result T H r,xV T H l with
  | some v,some vs=>some (v::vs)
  | _,_=>none
def rp(l:List AR)(T:Tr V)(H:Hp):Option V:=
 match xV T H l with
 | some [v]=>some v
 | some vs=>some (.u vs)
 | none=>none
def Ex.js:Ex->Bool
 | .normal=>true
 | _=>false
def Ex.JZ:Ex->V
 | .panic v=>v
 | _=>.ni
def Ex.rq:Ex->Bool
 | .panic _=>true
 | _=>false
def BJ(c:Nat):Nat->Nat->Nat->Option Nat
 | 0,_,_=>none
 | l+1,n,i=>bif Nat.beq (Nat.mod n 256) c then some i else BJ c l (Nat.div n 256) (Nat.succ i)
def J0:Option Nat->V
 | some i=>.i .i64 (Int.ofNat i)
 | none=>.i .i64 (Int.negSucc 0)
def DL(l:List V)(H:Hp)(n:K):gm:=
 match l with
 | [.s l m,.i .u8 (.ofNat c)]=>bif Nat.blt c 256 then some (J0 (BJ c l m 0),H,n) else none
 | _=>none
def J1(l:List V)(H:Hp)(n:K):gm:=
 match l with
 | [v]=>some (v,H,n)
 | _=>none
def TE.fits(e:TE)(l:List V)(H:Hp)(n:K):Bool:=K.beq e.n n&&kG e.args l&&K.cmp true n e.n'&&fP wF e.cA H
def GV:List TE->List V->Hp->K->gm
 | [],_,_,_=>none
 | e::es,l,H,n=>bif e.fits l H n then some (e.v,e.add,e.n') else GV es l H n
def pm(p:Pm)(l:List V)(H:Hp)(n:K):gm:=
 match p with
 | .wB=>DL l H n
 | .same=>J1 l H n
 | .km es=>GV es l H n
 | .DE cA v=>match l with
  | []=>bif fP wF cA H then some (v,H,n) else none
  | _=>none
def bD(C:Nat->Option bN)(ih:dY)(j:F5)(H:Hp)(n:K):Option R:=
 match j with
 | .code c T=>match c with
  | .skip=>some ⟨.normal,T,.q,H,n⟩
  | .reg l=>fZ ih l T H n
  | .regd l=>eY ih l 0 T H n [] [] []
  | .seq a b=>match ih (.code a T) H n with
   | some ⟨.normal,T,_,H,n⟩=>ih (.code b T) H n
   | r=>r
  | .cond c a b=>match aq T c with
   | some (.b x)=>ih (.code (bif x then a else b) T) H n
   | _=>none
  | .block id c=>match ih (.code c T) H n with
   | some ⟨.exit CY,T,v,H,n⟩=>bif Nat.beq id CY then some ⟨.normal,T,v,H,n⟩ else some ⟨.exit CY,T,v,H,n⟩
   | r=>r
  | .loop c=>match ih (.code c T) H n with
   | some ⟨.normal,T,_,H,n⟩=>ih (.code (.loop c) T) H n
   | r=>r
  | .lT f ps as body=>match aq T f with
   | some f=>match ih (.call f [.y n]) (H.put (some (.lp true .normal T ps as body)) n) n.succ with
    | some ⟨.normal,_,_,H',n'⟩=>match H'.get n with
     | some (.lp true gC _ _ _ _)=>bif gC.rq then none else some ⟨gC,T,.q,H'.put none n,n'⟩
     | some (.lp false gC _ _ _ _)=>bif gC.rq||gC.js then none else some ⟨gC,T,.q,H'.put none n,n'⟩
     | _=>none
    | _=>none
   | none=>none
  | .ph d x l c ws=>match aq T x with
   | some (.p b 0)=>match H.get b with
    | some (.mi m since)=>match H.get m with
     | some (.mp es dc)=>bif Nat.beq since dc&&xU dc 0 es then
      let round (T:Tr V) (H:Hp) (n:K) (e:V×V×Nat):Option R:=match fZ ih l (eg d (some (.u [.b true,e.1,e.2.1])) T) (H.put (some (.me m dc e.2.2)) b) n with
       | some ⟨.normal,T,_,H,n⟩=>ih (.code c T) H n
       | _=>none
      let over (T:Tr V) (H:Hp) (n:K):Option R:=match fZ ih l (eg d (some (.u [.b false])) T) H n with
       | some ⟨.normal,T,_,H,n⟩=>(match ih (.code c T) H n with
        | some ⟨.normal,_,_,_,_⟩=>none
        | r=>r)
       | _=>none
      match es with
      | [e]=>match round T (H.put none b) n e with
       | some ⟨.normal,T,_,H,n⟩=>(match H.get b,H.get m with
        | some (.me _ _ _),some (.mp [(_,_,t)] dc)=>bif Nat.beq since dc&&Nat.beq t e.2.2&&sJ T x b then over T (H.put none b) n else none
        | _,_=>none)
       | r=>r
      | es=>
       let T:=erase T ws;let H:=H.put none b
       bif sJ T x b&&DK (round T H n) T H es then over T H n else none
      else none
     | _=>none
    | _=>none
   | _=>none
  | .exit id=>some ⟨.exit id,T,.q,H,n⟩
  | .scope c=>ih (.code c T) H n
  | .ret=>some ⟨.ret,T,.q,H,n⟩
  | .bad=>none
 | .call f l=>match f with
  | .f g a c=>match C g with
   | some (.pm p)=>match pm p (a++(l++c)) H n with
    | some (v,H,n)=>some ⟨.normal,.e,v,H,n⟩
    | none=>none
   | some (.go af)=>match binds af.jD (a++(l++c)) .e with
    | some T=>match ih (.code af.body T) H n with
     | some ⟨.exit _,_,_,_,_⟩=>none
     | some ⟨.panic v,_,_,H,n⟩=>some ⟨.panic v,.e,.q,H,n⟩
     | some ⟨_,T,_,H,n⟩=>match rp af.res T H with
      | some v=>some ⟨.normal,.e,v,H,n⟩
      | none=>none
     | none=>none
    | none=>none
   | some (.zI af)=>match binds af.jD (a++(l++c)) .e with
    | some T=>match fZ ih af.pre T H n with
     | some ⟨.normal,T,_,H,n⟩=>match fD T af.gN with
      | some gN=>match ih (.code af.body (T.put (some (.f af.g [] gN)) af.JQ)) H n with
       | some ⟨.exit _,_,_,_,_⟩=>none
       | some ⟨ex,T,_,H,n⟩=>match binds af.JR gN .e with
        | some Tc=>match ih (.code af.JU (Tc.put (some ex.JZ) af.JT)) H n with
         | some ⟨.exit _,_,_,_,_⟩=>none
         | some ⟨.panic _,_,_,_,_⟩=>none
         | some ⟨_,_,_,H,n⟩=>match rp af.res T H with
          | some v=>some ⟨.normal,.e,v,H,n⟩
          | none=>none
         | none=>none
        | none=>none
       | none=>none
      | none=>none
     | _=>none
    | none=>none
   | none=>none
  | .y k=>match H.get k with
   | some (.lp true .normal T ps as body)=>match binds ps l T with
    | some T'=>bif Nat.beq ps.length l.length then
     (match ih (.code as T') H n with
     | some ⟨.normal,T',_,H,n⟩=>match H.get k with
      | some (.lp true .normal T ps as BK)=>match ih (.code body T') (H.put (some (.lp false .normal T ps as BK)) k) n with
       | some r=>match r.H.get k with
        | some (.lp false .normal T ps as body)=>bif r.ex.rq then none else some ⟨.normal,.e,.b r.ex.js,r.H.put (some (.lp r.ex.js r.ex T ps as body)) k,r.n⟩
        | _=>none
       | none=>none
      | _=>none
     | _=>none) else none
    | none=>none
   | _=>none
  | _=>none
def ev(C:Nat->Option bN):Nat->dY
 | 0=>λ_ _ _=>none
 | f+1=>bD C (ev C f)
def K.DM:Nat->Nat->K
 | 0,_=>.h
 | f+1,n=>bif Nat.ble n 1 then .h else bif Nat.beq (Nat.mod n 2) 0 then .o (K.DM f (Nat.div n 2)) else .i (K.DM f (Nat.div n 2))
def cz(t:Nat):K:=K.DM (Nat.succ t) (Nat.succ t)
inductive TD where
 | bool | int (k:IntKind) | str | ptr (e:Nat) | slice (e:Nat) | arr (n e:Nat) | map (k e:Nat)
 | ru (fs:List (Nat×Nat)) (plain:Bool)
 | func | iface | BL | other
 deriving Inhabited
structure TI where
 desc:TD
 size:Nat
 bytes:Nat
 zero:List V
 deriving Inhabited
structure Ty where
 i:Nat->Option TI
 g:Nat
 b:Nat
instance:CoeFun Ty (λ_=>Nat->Option TI):=⟨Ty.i⟩
def TD.agg:TD->Bool
 | .ru _ _ | .arr _ _=>true
 | _=>false
def TI.zeroV(i:TI):V:=bif i.desc.agg then .a i.zero else i.zero.headD .q
def bp:List UInt8->Nat
 | []=>0
 | b::l=>b.toNat+256*bp l
mutual
def gD:Value->Option V
 | .bool b=>some (.b b)
 | .int k n=>some (.i k n)
 | .string s=>some (.s s.size (bp s.data.toList))
 | .pointer none=>some .np
 | .slice none 0 0=>some .ns
 | .map none=>some .nm
 | .func (.func f) ⟨[]⟩ ⟨[]⟩=>some (.f f [] [])
 | .nilFunc=>some .nf
 | .nilIface=>some .ni
 | .iface t v=>match gD v with | some v=>some (.kY t v) | none=>none
 | .agg ⟨l⟩=>match xW l with | some l=>some (.a l) | none=>none
 | .tuple ⟨l⟩=>match xW l with | some l=>some (.u l) | none=>none
 | _=>none
def xW:List Value->Option (List V)
 | []=>some []
 | v::l=>match gD v,xW l with
  | some v,some l=>some (v::l)
  | _,_=>none
end
def bK(ty:Ty):Operand->Option ax
 | .tmp t=>some (.t (cz t))
 | .const v=>match gD v with | some v=>some (.c v) | none=>none
 | .global g=>bif Nat.blt g ty.g then some (.c (.p (cz g) 0)) else none
 | .func f=>some (.c (.f f [] []))
def po(ty:Ty):List Operand->Option (List ax)
 | []=>some []
 | x::l=>match bK ty x,po ty l with
  | some x,some l=>some (x::l)
  | _,_=>none
def ux(ty:Ty):Option Operand->Option (Option ax)
 | none=>some none
 | some x=>match bK ty x with | some x=>some (some x) | none=>none
def TD.ek:TD->Option EK
 | .bool=>some .bool
 | .int _=>some .int
 | .str=>some .str
 | .ptr _=>some .ptr
 | .slice _=>some .slice
 | .map _ _=>some .map
 | .func=>some .func
 | _=>none
def TD.key:TD->Option EK
 | .bool=>some .bool
 | .int _=>some .int
 | .str=>some .str
 | _=>none
def flat(ty:Ty):List (Nat×Nat)->Option (List (Nat×EK))
 | []=>some []
 | (t,o)::fs=>match ty t with
  | some i=>match i.desc.key,flat ty fs with
   | some q,some l=>some ((o,q)::l)
   | _,_=>none
  | none=>none
def xX:Operand->Bool
 | .const .nilIface=>true
 | _=>false
def lU(ty:Ty)(k:Nat):Option ey:=
 match ty k with
 | some i=>match i.desc with
  | .ru fs plain=>bif plain then (match flat ty fs with | some l=>some (.agg l) | none=>none) else none
  | .arr n e=>match ty e with
   | some j=>match j.desc.key with
    | some q=>some (.agg ((List.range n).map λi=>(i,q)))
    | none=>none
   | none=>none
  | d=>match d.key with | some q=>some (.one q) | none=>none
 | none=>none
def I9(ty:Ty)(t:Nat)(x y:Operand):Option ey:=
 match ty t with
 | some i=>match i.desc with
  | .ru _ _ | .arr _ _=>lU ty t
  | .iface=>bif xX x||xX y then some (.one .iface) else none
  | .ptr e=>match ty e with
   | some j=>bif Nat.beq j.size 0 then none else some (.one .ptr)
   | none=>none
  | d=>match d.ek with | some q=>some (.one q) | none=>none
 | none=>none
def isEq:BinOp->Bool
 | .eql | .neq=>true
 | _=>false
def zK(ty:Ty)(off:Nat->Option (Nat×Nat)):List (Nat×Operand)->Option (List (Nat×Nat×ax))
 | []=>some []
 | (i,x)::l=>match off i,bK ty x,zK ty off l with
  | some (o,s),some x,some l=>some ((o,s,x)::l)
  | _,_,_=>none
def GW(ty:Ty)(fs:List (Nat×Nat))(i:Nat):Option (Nat×Nat):=
 match nth fs i with
 | some (t,o)=>match ty t with | some j=>some (o,j.size) | none=>none
 | none=>none
def sK(ty:Ty)(c:Call):Option A:=
 match c.callee with
 | .value f=>match bK ty f,po ty c.args.toList with
  | some f,some l=>some (.cg f l)
  | _,_=>none
 | .invoke _ _=>none
 | .builtin b=>match b,c.args.toList,c.argTypes.toList with
  | .append,[s,x],t::u::_=>match ty t,ty u,bK ty s,bK ty x with
   | some i,some j,some s,some x=>match i.desc,j.desc with
    | _,.other=>none
    | .slice e,d=>match ty e with
     | some k=>some (.app e k.size k.bytes k.zero (match d with | .int _=>true | _=>false) s x)
     | none=>none
    | _,_=>none
   | _,_,_,_=>none
  | .unsafeSliceData,[x],t::_=>match ty t,bK ty x with
   | some i,some x=>match i.desc with
    | .slice _=>some (.I3 x)
    | _=>none
   | _,_=>none
  | .unsafeString,[p,l],t::_=>match ty t,bK ty p,bK ty l with
   | some i,some p,some l=>match i.desc with
    | .ptr u=>match ty u with | some ⟨.int .u8,1,_,_⟩=>some (.zG u p l) | _=>none
    | _=>none
   | _,_,_=>none
  | .copy,[d,x],t::_=>match ty t,bK ty d,bK ty x with
   | some i,some d,some x=>match i.desc with
    | .slice e=>match ty e with | some k=>some (.A8 k.size d x) | none=>none
    | _=>none
   | _,_,_=>none
  | .len,[x],t::_=>match ty t,bK ty x with
   | some i,some x=>match i.desc with
    | .arr n _=>some (.mv (.c (.i .i64 (Int.ofNat n))))
    | .ptr e=>match ty e with | some ⟨.arr n _,_,_,_⟩=>some (.mv (.c (.i .i64 (Int.ofNat n)))) | _=>none
    | .str=>some (.len 0 x)
    | .slice _=>some (.len 1 x)
    | .map _ _=>some (.len 2 x)
    | _=>none
   | _,_=>none
  | .cap,[x],t::_=>match ty t,bK ty x with
   | some i,some x=>match i.desc with
    | .slice _=>some (.cap none x)
    | _=>none
   | _,_=>none
  | .delete,[m,k],t::_=>match ty t,bK ty m,bK ty k with
   | some i,some m,some k=>match i.desc with
    | .map kt _=>match lU ty kt with | some q=>some (.del q m k) | none=>none
    | _=>none
   | _,_,_=>none
  | .max,l,_=>match po ty l with | some l=>some (.mm true l) | none=>none
  | .min,l,_=>match po ty l with | some l=>some (.mm false l) | none=>none
  | .clear,[x],t::_=>match ty t,bK ty x with
   | some i,some x=>match i.desc with
    | .slice e=>match ty e with | some k=>some (.I5 k.zero x) | none=>none
    | _=>none
   | _,_=>none
  | _,_,_=>none
def dZ(ty:Ty)(o:Op):Option A:=
 match o with
 | .move x | .assign x=>match bK ty x with | some x=>some (.mv x) | none=>none
 | .pick c a b=>match bK ty c,bK ty a,bK ty b with
  | some c,some a,some b=>some (.pick c a b)
  | _,_,_=>none
 | .alloc e=>match ty e with
  | some i=>bif Nat.beq e ty.b then (match i.zero with | [x,y]=>some (.BD e x y) | _=>none) else some (.new e i.zero)
  | none=>none
 | .box e x=>match bK ty x with | some x=>some (.box e x) | none=>none
 | .build t ps=>match ty t with
  | some i=>match i.desc with
   | .ru fs _=>match zK ty (GW ty fs) ps.toList with | some l=>some (.bld i.zero l) | none=>none
   | .arr _ e=>match ty e with
    | some j=>match zK ty (λk=>some (k*j.size,j.size)) ps.toList with | some l=>some (.bld i.zero l) | none=>none
    | none=>none
   | _=>none
  | none=>none
 | .buildSlice t len ps=>match ty t with
  | some i=>match i.desc with
   | .slice e=>match ty e with
    | some j=>bif Nat.ble (len*j.size) 16777216 then
     (match zK ty (λk=>some (k*j.size,j.size)) ps.toList with | some l=>some (.bsl e (iw j.zero len) len l) | none=>none) else none
    | none=>none
   | _=>none
  | none=>none
 | .load t a=>match ty t,bK ty a with
  | some i,some a=>some (.ld i.desc.agg i.size a)
  | _,_=>none
 | .store t a v=>match ty t,bK ty a,bK ty v with
  | some i,some a,some v=>some (.st i.size a v)
  | _,_,_=>none
 | .nilCheck x=>match bK ty x with | some x=>some (.nck x) | none=>none
 | .binOp op t x y _=>match bK ty x,bK ty y with
  | some a,some b=>bif isEq op then (match I9 ty t x y with | some k=>some (.bin op k a b) | none=>none) else some (.bin op (.one .bool) a b)
  | _,_=>none
 | .unOp op _ x=>match bK ty x with | some x=>some (.un op x) | none=>none
 | .convert a b x=>match ty a,ty b,bK ty x with
  | some i,some j,some x=>match i.desc,j.desc with
   | .int _,.int k=>some (.cv (.toInt k) x)
   | .str,.str=>some (.cv .same x)
   | .int _,.str=>some (.cv .zF x)
   | .ptr e,.BL=>bif Nat.beq e ty.b then some (.cv .IY x) else none
   | .BL,.ptr e=>bif Nat.beq e ty.b then some (.cv (.IZ e) x) else none
   | .slice e,.str=>match ty e with | some ⟨.int .u8,_,_,_⟩=>some (.cv .zE x) | _=>none
   | .str,.slice e=>match ty e with
    | some ⟨.int .i32,_,_,_⟩=>some (.cv (.JO e) x)
    | _=>none
   | _,_=>none
  | _,_,_=>none
 | .makeInterface t x=>match ty t,bK ty x with
  | some i,some x=>match i.desc with
   | .iface | .other=>none
   | _=>some (.mif t x)
  | _,_=>none
 | .makeFunc fn a c=>match fn with
  | .func f=>match po ty a.toList,po ty c.toList with
   | some a,some c=>some (.mfn f a c)
   | _,_=>none
  | _=>none
 | .makeMap t r=>match ty t with
  | some i=>match i.desc,r with
   | .map _ _,none=>some .mmap
   | .map _ _,some (.const (.int _ _))=>some .mmap
   | _,_=>none
  | none=>none
 | .makeSlice t l c=>match ty t,bK ty l,bK ty c with
  | some i,some l,some c=>match i.desc with
   | .slice e=>match ty e with | some j=>some (.msl e j.size j.bytes j.zero l c) | none=>none
   | _=>none
  | _,_,_=>none
 | .slice t x lo hi mx=>match ty t,bK ty x,ux ty lo,ux ty hi,ux ty mx with
  | some i,some x,some lo,some hi,some mx=>bif mx.isSome&&hi.isNone then none else match i.desc with
   | .str=>some (.sli .str x lo hi mx)
   | .slice e=>match ty e with | some j=>some (.sli (.sl j.size) x lo hi mx) | none=>none
   | .arr n e=>match ty e with | some j=>some (.sli (.arr n j.size) x lo hi mx) | none=>none
   | _=>none
  | _,_,_,_,_=>none
 | .fieldAddr s x f=>match ty s,bK ty x with
  | some i,some x=>match i.desc with
   | .ru fs _=>match GW ty fs f with
    | some (o,sz)=>bif Nat.beq sz 0 then none else some (.fad o x)
    | none=>none
   | _=>none
  | _,_=>none
 | .field s x f=>match ty s,bK ty x with
  | some i,some x=>match i.desc with
   | .ru fs _=>match nth fs f with
    | some (t,o)=>match ty t with | some j=>some (.fld j.desc.agg o j.size x) | none=>none
    | none=>none
   | _=>none
  | _,_=>none
 | .indexAddr t x ix=>match ty t,bK ty x,bK ty ix with
  | some i,some x,some ix=>match i.desc with
   | .arr n e=>match ty e with | some j=>some (.iad (some n) j.size x ix) | none=>none
   | .slice e=>match ty e with | some j=>some (.iad none j.size x ix) | none=>none
   | _=>none
  | _,_,_=>none
 | .index t x ix=>match ty t,bK ty x,bK ty ix with
  | some i,some x,some ix=>match i.desc with
   | .str=>some (.idx none x ix)
   | .arr n e=>match ty e with | some j=>some (.idx (some (n,j.size,j.desc.agg)) x ix) | none=>none
   | _=>none
  | _,_,_=>none
 | .lookup t m k ok=>match ty t,bK ty m,bK ty k with
  | some i,some m,some k=>match i.desc with
   | .map kt e=>match ty e with
    | some j=>match lU ty kt with | some q=>some (.lkp q j.zeroV ok m k) | none=>none
    | none=>none
   | _=>none
  | _,_,_=>none
 | .mapUpdate t m k v | .insert t m k v=>match ty t,bK ty m,bK ty k,bK ty v with
  | some i,some m,some k,some v=>match i.desc with
   | .map kt _=>match lU ty kt with | some q=>some (.I4 q m k v) | none=>none
   | _=>none
  | _,_,_,_=>none
 | .range t x=>match ty t,bK ty x with
  | some i,some x=>match i.desc with
   | .str=>some (.DC false x)
   | .map _ _=>some (.DC true x)
   | _=>none
  | _,_=>none
 | .next x s=>match bK ty x with | some x=>bif s then some (.DD s x) else none | none=>none
 | .entry x=>match bK ty x with | some x=>some (.JP x) | none=>none
 | .typeAssert x _ t ok=>match ty t,bK ty x with
  | some i,some x=>match i.desc with
   | .iface | .other=>none
   | _=>some (.tas t i.zeroV ok x)
  | _,_=>none
 | .extract x i=>match bK ty x with | some x=>some (.ext x i) | none=>none
 | .call c=>sK ty c
 | .panic x=>match bK ty x with | some x=>some (.wA x) | none=>none
 | _=>none
def xY(ops:Array Oper):Option (Nat×Bool)->Option (Option (K×Bool))
 | none=>some none
 | some (j,w)=>match (ops[j]?).bind (·.dst) with
  | some d=>some (some (cz d,w))
  | none=>none
def jE(ty:Ty)(ops:Array Oper)(o:Oper)(Δ:Nat):AO:=
 match xY ops o.guard with
 | some g=>{ dst:=o.dst.map cz,op:=(dZ ty o.op).getD .bad,guard:=g,Δ}
 | none=>{ dst:=none,op:=.bad,guard:=none,Δ}
def eD(ty:Ty)(ops:Array Oper):List Oper->List Nat->List AO
 | [],_=>[]
 | o::l,[]=>jE ty ops o 0::eD ty ops l []
 | o::l,a::as=>jE ty ops o a::eD ty ops l as
def A.eU:A->List ax
 | .mv x | .box _ x | .ld _ _ x | .nck x | .un _ x | .cv _ x | .mif _ x | .fad _ x | .fld _ _ _ x | .DC _ x | .DD _ x | .JP x | .tas _ _ _ x | .ext x _ | .len _ x | .cap _ x | .I5 _ x | .wA x | .I3 x=>[x]
 | .pick c a b=>[c,a,b]
 | .bld _ ps | .bsl _ _ _ ps=>ps.map (·.2.2)
 | .st _ a x | .bin _ _ a x | .iad _ _ a x | .idx _ a x | .lkp _ _ _ a x | .app _ _ _ _ _ a x | .A8 _ a x | .del _ a x | .msl _ _ _ _ a x | .zG _ a x=>[a,x]
 | .I4 _ a b c=>[a,b,c]
 | .mfn _ a c=>a++c
 | .sli _ x lo hi mx=>x::(lo.toList++(hi.toList++mx.toList))
 | .mm _ l=>l
 | .cg f l=>f::l
 | .new _ _ | .BD _ _ _ | .mmap | .bad=>[]
def looks:List ax->List K
 | []=>[]
 | .t k::l=>k::looks l
 | .c _::l=>looks l
def AO.looks(o:AO):List K:=(match o.guard with | some (k,_)=>[k] | none=>[])++Ev.looks o.op.eU
def kq:A->Bool
 | .cg _ _=>true
 | op=>match cls op with | .kq=>true | _=>false
def zL(i:Nat)(a b:AO):Bool:=
 Nat.testBit b.Δ i||
 (!(kq a.op&&kq b.op)&&
  (match a.dst with | some d=>!(b.looks.any (K.beq d)) | none=>true)&&
  (match b.dst with | some d=>!(a.looks.any (K.beq d)) | none=>true))
def BM(a b:AO):Bool:=
 match a.dst,b.dst with
 | some d,some e=>!(K.beq d e)
 | _,_=>true
def xZ(eh:List Nat):List Edge->Nat
 | []=>0
 | e::l=>bif Region.binds .any e then Nat.lor (Nat.lor (Nat.pow 2 e.on) ((nth eh e.on).getD 0)) (xZ eh l) else xZ eh l
def DN(i:Nat):List Edge->Bool
 | []=>true
 | e::l=>(!(Region.binds .any e)||Nat.blt e.on i)&&DN i l
def GX(i:Nat)(a:AO):List AO->Bool
 | []=>true
 | b::l=>zL i a b&&BM a b&&GX i a l
def ya(eh:List Nat):Nat->List Oper->List AO->Bool
 | _,[],[]=>true
 | i,o::os,a::l=>Nat.beq a.Δ (xZ eh o.after.toList)&&DN i o.after.toList&&GX i a l&&ya eh (Nat.succ i) os l
 | _,_,_=>false
def DO:List AO->List K
 | []=>[]
 | o::l=>match o.dst with | some d=>d::DO l | none=>DO l
def AC.writes:AC->List K
 | .reg l | .regd l=>DO l
 | .seq a b | .cond _ a b=>a.writes++b.writes
 | .block _ c | .loop c | .scope c=>c.writes
 | .ph d _ l c _=>(match d with | some d=>[d] | none=>[])++DO l++c.writes
 | _=>[]
def uy(ty:Ty)(c:AC):Code->AC
 | .seq (.region _ ⟨⟨d,.next x false,_,_,_,none⟩::_⟩ false) _=>match c,bK ty x with
  | .seq (.reg (_::l)) c,some x=>
   let d:=d.map cz
   .ph d x l c ((match d with | some d=>[d] | none=>[])++DO l++c.writes)
  | _,_=>.bad
 | _=>.loop c
def dC(ty:Ty):Code->AC
 | .skip=>.skip
 | .region _ ops draw=>bif draw then (bif ya (Region.before ops).toList 0 ops.toList (eD ty ops ops.toList (Region.before ops).toList) then .regd (eD ty ops ops.toList (Region.before ops).toList) else .bad) else .reg (eD ty ops ops.toList [])
 | .seq a b=>.seq (dC ty a) (dC ty b)
 | .cond c a b=>match bK ty c with | some c=>.cond c (dC ty a) (dC ty b) | none=>.bad
 | .block id c=>.block id (dC ty c)
 | .loop c=>uy ty (dC ty c) c
 | .rangeFunc f ps as body=>match bK ty f with | some f=>.lT f (ps.toList.map cz) (dC ty as) (dC ty body) | none=>.bad
 | .exit id=>.exit id
 | .scope c=>.scope (dC ty c)
 | .label _=>.skip
 | .ret=>.ret
 | _=>.bad
def GY(ty:Ty):ResultVar->Option AR
 | .tmp t=>some (.t (cz t))
 | .cell a t=>match ty t with | some i=>some (.cell (cz a) i.desc.agg i.size) | none=>none
def yb(ty:Ty):List ResultVar->Option (List AR)
 | []=>some []
 | r::l=>match GY ty r,yb ty l with
  | some a,some as=>some (a::as)
  | _,_=>none
def iK(N:Nat):List Oper->Bool
 | []=>true
 | o::l=>(match o.dst with | some d=>Nat.blt d N | none=>true)&&iK N l
def ou(N:Nat):List Nat->Bool
 | []=>true
 | d::l=>Nat.blt d N&&ou N l
def within(N:Nat):Code->Bool
 | .region _ ops _=>iK N ops.toList
 | .seq a b=>within N a&&within N b
 | .cond _ a b=>within N a&&within N b
 | .block _ c=>within N c
 | .loop c=>within N c
 | .scope c=>within N c
 | .rangeFunc _ ps as body=>ou N ps.toList&&within N as&&within N body
 | _=>true
def zM(ty:Ty)(f:Func):Option AF:=
 match f.body,yb ty f.results.toList with
 | some c,some rs=>bif within f.ntmps c then
  some { jD:=(List.range (f.params.size+f.nfree)).map cz,res:=rs,body:=dC ty c}
  else none
 | _,_=>none
def yc(ty:Ty)(fn:Func)(cl:Nat->Option Func):Option BE:=
 match fn.body,yb ty fn.results.toList with
 | some (.seq (.region _ pre false) (.seq (.region _ ⟨[⟨some s,.makeFunc (.func g) ⟨[]⟩ gN,_,_,_,none⟩,⟨none,.defer ⟨.value (.tmp s'),⟨[]⟩,_⟩,_,_,_,none⟩]⟩ false) rest)),some rs=>
  match po ty gN.toList,cl g with
  | some DP,some cf=>match cf.body with
   | some (.seq (.region _ ⟨[⟨some q,.call ⟨.builtin .recover,_,_⟩,_,_,_,none⟩]⟩ false) ov)=>
    bif Nat.beq s s'&&(iK fn.ntmps pre.toList&&(Nat.blt s fn.ntmps&&(within fn.ntmps rest&&(Nat.blt q cf.ntmps&&(within cf.ntmps ov&&Nat.beq cf.results.size 0))))) then
     some { jD:=(List.range (fn.params.size+fn.nfree)).map cz,res:=rs,pre:=eD ty pre pre.toList [],JQ:=cz s,g:=g,gN:=DP,body:=dC ty rest,JR:=(List.range (cf.params.size+cf.nfree)).map cz,JT:=cz q,JU:=dC ty ov}
    else none
   | _=>none
  | _,_=>none
 | _,_=>none
def K.num:K->Nat
 | .h=>1
 | .o p=>2*p.num
 | .i p=>2*p.num+1
theorem K.yd(k:K):0<k.num:=by
 induction k with
 | h=>simp[K.num]
 | o p ih=>simp[K.num];omega
 | i p ih=>simp[K.num]
theorem K.Zo{a b:K}(h:a.num=b.num):a=b:=by
 induction a generalizing b with
 | h=>
  cases b with
  | h=>rfl
  | o p=>have:=p.yd;simp only[K.num]at h;omega
  | i p=>have:=p.yd;simp only[K.num]at h;omega
 | o p ih=>
  cases b with
  | h=>have:=p.yd;simp only[K.num]at h;omega
  | o q=>simp only[K.num]at h;rw[ih (b:=q) (by omega)]
  | i q=>simp only[K.num]at h;omega
 | i p ih=>
  cases b with
  | h=>have:=p.yd;simp only[K.num]at h;omega
  | o q=>simp only[K.num]at h;omega
  | i q=>simp only[K.num]at h;rw[ih (b:=q) (by omega)]
theorem K.fQ(k:K):k.succ.num=k.num+1:=by
 induction k with
 | h=>rfl
 | o p ih=>simp[K.succ,K.num]
 | i p ih=>simp only[K.succ,K.num,ih];omega
theorem K.Zp(f n:Nat)(h:n<=f)(hn:0<n):(K.DM f n).num=n:=by
 induction f generalizing n with
 | zero=>omega
 | succ f ih=>
  simp only[K.DM];by_cases h1:n<=1
  ·have:Nat.ble n 1=true:=by simpa using h1
   simp[this,K.num];omega
  ·have:Nat.ble n 1=false:=by cases hb:Nat.ble n 1 with | false=>rfl | true=>exact absurd (nD hb) h1
   simp only[this,cond_false];by_cases h2:n % 2=0
   ·have:Nat.beq (Nat.mod n 2) 0=true:=by show Nat.beq (n % 2) 0=true;rw[h2];rfl
    simp only[this,cond_true,K.num];have:=ih (Nat.div n 2) (by show n / 2<=f;omega) (by show 0<n / 2;omega);rw[this];show 2*(n / 2)=n;omega
   ·have:Nat.beq (Nat.mod n 2) 0=false:=by
     show Nat.beq (n % 2) 0=false;have:n % 2=1:=by omega
     rw[this];rfl
    simp only[this,cond_false,K.num];have:=ih (Nat.div n 2) (by show n / 2<=f;omega) (by show 0<n / 2;omega);rw[this];show 2*(n / 2)+1=n;omega
theorem zN(t:Nat):(cz t).num=t+1:=K.Zp _ _ (χ _) (Nat.succ_pos _)
theorem GZ{a b:Nat}(h:cz a=cz b):a=b:=by have:=congrArg K.num h;rw[zN,zN]at this;omega
theorem K.beq_eq{a b:K}(h:K.beq a b=true):a=b:=by
 induction a generalizing b with
 | h=>cases b<;>simp_all [K.beq]
 | o p ih=>cases b<;>simp_all [K.beq];exact ih h
 | i p ih=>cases b<;>simp_all [K.beq];exact ih h
instance:DecidableEq K:=λa b=>if h:K.num a=K.num b then isTrue (K.Zo h) else isFalse λe=>h (by rw[e])
theorem K.beq_refl(a:K):K.beq a a=true:=by
 induction a with
 | h=>rfl
 | o p ih=>exact ih
 | i p ih=>exact ih
theorem Tr.gZ{α:Type}(k:K):(Tr.e:Tr α).get k=none:=by cases k<;>rfl
theorem Tr.Zq{α:Type}(v:Option α)(k k':K):(Tr.zH v k).get k'=if k'=k then v else none:=by
 induction k generalizing k' with
 | h=>cases k'<;>simp[Tr.zH,Tr.get,Tr.gZ]
 | o p ih=>cases k'<;>simp[Tr.zH,Tr.get,Tr.gZ,ih]
 | i p ih=>cases k'<;>simp[Tr.zH,Tr.get,Tr.gZ,ih]
theorem Tr.fI{α:Type}(v:Option α)(t:Tr α)(k k':K):(Tr.put v t k).get k'=if k'=k then v else t.get k':=by
 induction t generalizing k k' with
 | e=>simp[Tr.put,Tr.Zq,Tr.gZ]
 | n w l r kR qf=>
  cases k<;>cases k'<;>simp[Tr.put,Tr.get,kR,qf]
theorem Tr.G0{α:Type}(v:Option α)(t:Tr α)(k:K):(Tr.put v t k).get k=v:=by simp[Tr.fI]
theorem Tr.G1{α:Type}(v:Option α)(t:Tr α){k k':K}(h:k'≠k):(Tr.put v t k).get k'=t.get k':=by simp[Tr.fI,h]
theorem pr{α:Type}(l:List α)(n:Nat):nth l n=l[n]?:=by
 induction l generalizing n with
 | nil=>simp[nth]
 | cons a l ih=>cases n with
  | zero=>simp[nth]
  | succ n=>simp[nth,ih]
theorem G2{α:Type}{n:Nat}{l r:List α}(h:takeN n l=some r):r=l.take n/\n<=l.length:=by
 induction n generalizing l r with
 | zero=>simp[takeN]at h;simp[h]
 | succ n ih=>
  cases l with
  | nil=>simp[takeN]at h
  | cons a l=>
   simp only[takeN]at h;split at h
   ·rename_i l' hl;obtain⟨rfl,hn⟩:=ih hl;injection h with h;subst h;exact⟨by simp,by simp;omega⟩
   ·cases h
theorem J2{α:Type}{n:Nat}{l r:List α}(h:pj n l=some r):r=l.drop n/\n<=l.length:=by
 induction n generalizing l r with
 | zero=>simp[pj]at h;simp[h]
 | succ n ih=>
  cases l with
  | nil=>simp[pj]at h
  | cons a l=>
   simp only[pj]at h;obtain⟨rfl,hn⟩:=ih h;exact⟨by simp,by simp;omega⟩
theorem ow{α:Type}{l r:List α}{o n:Nat}(h:db l o n=some r):r=(l.drop o).take n/\o+n<=l.length:=by
 unfold db at h;split at h
 ·rename_i l' hl;obtain⟨rfl,h1⟩:=J2 hl;obtain⟨rfl,h2⟩:=G2 h;rw[uv]at h2;exact⟨rfl,by omega⟩
 ·cases h
theorem Zr{α:Type}{vs l r:List α}(h:over vs l=some r):r.length=l.length/\vs.length<=l.length/\∀i,r[i]?=if i<vs.length then vs[i]? else l[i]?:=by
 induction vs generalizing l r with
 | nil=>simp[over]at h;simp[h]
 | cons v vs ih=>
  cases l with
  | nil=>simp[over]at h
  | cons a l=>
   simp only[over]at h;split at h
   ·rename_i l' hl;injection h with h;subst h;obtain⟨h1,h2,h3⟩:=ih hl;refine⟨by simp[h1],by simp[h2],λi=>?_⟩;cases i with
    | zero=>simp
    | succ i=>simp[h3 i]
   ·cases h
theorem J3{α:Type}{vs l r:List α}{o:Nat}(h:eK vs l o=some r):
 r.length=l.length/\o+vs.length<=l.length/\∀i,r[i]?=if o<=i/\i<o+vs.length then vs[i - o]? else l[i]?:=by
 induction o generalizing l r with
 | zero=>
  have h':over vs l=some r:=by cases l<;>simpa[eK]using h
  obtain⟨h1,h2,h3⟩:=Zr h';refine⟨h1,by omega,λi=>?_⟩;rw[h3 i];simp
 | succ o ih=>
  cases l with
  | nil=>simp[eK]at h
  | cons a l=>
   simp only[eK]at h;split at h
   ·rename_i l' hl;injection h with h;subst h;obtain⟨h1,h2,h3⟩:=ih hl;refine⟨by simp[h1],by simp;omega,λi=>?_⟩;cases i with
    | zero=>simp
    | succ i=>
     simp only[rf,h3 i];by_cases hi:o<=i/\i<o+vs.length
     ·rw[au hi,au (by omega)];congr 1;omega
     ·rw[Ξ hi,Ξ (by omega)]
   ·cases h
def bU:Nat->Nat->List UInt8
 | 0,_=>[]
 | l+1,n=>UInt8.ofNat (n % 256)::bU l (n / 256)
def strOf(l n:Nat):ByteArray:=⟨(bU l n).toArray⟩
theorem rz(l n:Nat):(bU l n).length=l:=by
 induction l generalizing n with
 | zero=>rfl
 | succ l ih=>simp[bU,ih]
theorem uz(l n:Nat):(strOf l n).size=l:=by show(bU l n).toArray.size=l;simp[rz]
theorem Pk(l n i:Nat)(h:i<l):(bU l n)[i]?=some (UInt8.ofNat (n / 256 ^ i % 256)):=by
 induction l generalizing n i with
 | zero=>omega
 | succ l ih=>
  cases i with
  | zero=>simp[bU]
  | succ i=>
   simp only[bU,rf];rw[ih (n / 256) i (by omega),Dx,gI,dP]
theorem Zs(l n l' n':Nat)(h:n<256 ^ l):bU l n++bU l' n'=bU (l+l') (n+n'*256 ^ l):=by
 induction l generalizing n with
 | zero=>
  have:n=0:=by simpa using h
  simp[bU,this]
 | succ l ih=>
  rw[Nat.succ_add];simp only[bU,xK];have hp:256 ^ (l+1)=256 ^ l*256:=gI ..;have e1:(n+n'*256 ^ (l+1)) % 256=n % 256:=by rw[hp,←iE,Nat.add_mul_mod_self_right]
  have e2:(n+n'*256 ^ (l+1)) / 256=n / 256+n'*256 ^ l:=by rw[hp,←iE,Nat.add_mul_div_right _ _ (by omega)]
  rw[e1,e2,ih (n / 256) (by rw[hp]at h;omega)]
theorem Zt{l n n':Nat}(h:n<256 ^ l)(h':n'<256 ^ l)(e:bU l n=bU l n'):n=n':=by
 induction l generalizing n n' with
 | zero=>simp at h h';omega
 | succ l ih=>
  simp only[bU,List.cons.injEq]at e;have hp:256 ^ (l+1)=256 ^ l*256:=gI ..;have e1:n % 256=n' % 256:=by have:=congrArg UInt8.toNat e.1;simpa using this
  have e2:=ih (by rw[hp]at h;omega) (by rw[hp]at h';omega) e.2;omega
theorem Zu(l n a:Nat)(h:a<=l):(bU l n).drop a=bU (l - a) (n / 256 ^ a):=by
 induction a generalizing l n with
 | zero=>simp
 | succ a ih=>
  cases l with
  | zero=>omega
  | succ l=>
   simp only[bU,DB];rw[ih l (n / 256) (by omega),Dx,gI,dP,Nat.succ_sub_succ]
theorem Zv(l n a:Nat)(h:a<=l):(bU l n).take a=bU a (n % 256 ^ a):=by
 induction a generalizing l n with
 | zero=>simp[bU]
 | succ a ih=>
  cases l with
  | zero=>omega
  | succ l=>
   have hp:256 ^ (a+1)=256*256 ^ a:=by rw[gI,dP]
   simp only[bU,sD];rw[ih l (n / 256) (by omega),hp,Nat.mod_mul_right_mod,Nat.mod_mul_right_div_self]
theorem Zw(l:List UInt8):bp l<256 ^ l.length:=by
 induction l with
 | nil=>simp[bp]
 | cons b l ih=>
  have:=b.toNat_lt;simp only[bp,fH,gI];omega
theorem J4(l:List UInt8):bU l.length (bp l)=l:=by
 induction l with
 | nil=>rfl
 | cons b l ih=>
  have:=b.toNat_lt;simp only[fH,bU,bp];have e1:(b.toNat+256*bp l) % 256=b.toNat:=by omega
  have e2:(b.toNat+256*bp l) / 256=bp l:=by omega
  rw[e1,e2,ih];simp
theorem Pn(s:ByteArray):strOf s.size (bp s.data.toList)=s:=by have:=J4 s.data.toList;rw[Bt]at this;show(⟨(bU s.data.size (bp s.data.toList)).toArray⟩:ByteArray)=s;rw[this]
section
def _root_.Go.Value.sL:Value->Bool
 | .agg _ | .tuple _=>false
 | _=>true
def aZ{α:Type}(P:Program)(s:Sem α)(w:World)(Φ:α->World->Prop):Prop:=∃a w',s.run P w=.ok a w'/\Φ a w'
section Zx
variable {α β:Type}{P:Program}{w:World}
theorem aZ.mono{s:Sem α}{Φ Ψ:α->World->Prop}(h:aZ P s w Φ)(k:∀a w',Φ a w'->Ψ a w'):aZ P s w Ψ:=
 let⟨a,w',h1,h2⟩:=h;⟨a,w',h1,k _ _ h2⟩
theorem aa{a:α}{Φ:α->World->Prop}(h:Φ a w):aZ P (pure a:Sem α) w Φ:=⟨a,w,rfl,h⟩
theorem ψ{x:Sem α}{f:α->Sem β}{Φ:β->World->Prop}(h:aZ P x w λa w'=>aZ P (f a) w' Φ):aZ P (x >>=f) w Φ:=by obtain⟨a,w',h1,b,xp,h2,h3⟩:=h;exact⟨b,xp,by show(Sem.bind x f).run P w=_;rw[Sem.run_bind',h1];exact h2,h3⟩
theorem DQ{Φ:Program->World->Prop}(h:Φ P w):aZ P program w Φ:=⟨P,w,rfl,h⟩
theorem Po{q:Question}{Φ:Nat->World->Prop}(h:∀t d,d=w.drawn\/d=w.drawn+1->Φ (q.cut t) { w with drawn:=d})(h0:q.forced=true->Φ 0 w):aZ P (choose q) w Φ:=by
 by_cases hq:q.forced=true
 ·exact⟨0,w,by simp[choose,Sem.run,hq],h0 hq⟩
 ·exact⟨q.cut (w.tape w.drawn q),_,by simp[choose,Sem.run,hq],h _ _ (.inr U)⟩
theorem J5{a:Addr}{m:Mode}{v:Value}{Φ:Value->World->Prop}(hc:w.cell? a=some v)(h:Φ v w):aZ P (load a m) w Φ:=
 ⟨v,w,by simp[load,Sem.run,hc],h⟩
theorem Zy{a:Addr}{m:Mode}{v v0:Value}{Φ:Unit->World->Prop}(h1:v.sL=true)(hc:w.cell? a=some v0)(hf:w.frozen? a=false)
 (h:Φ () (w.setCell a v)):aZ P (store a v m) w Φ:=by
 refine⟨(),_,?_,h⟩;cases v<;>simp_all [store,Sem.run,Value.sL]
theorem wG{o:Obj}{Φ:Nat->World->Prop}(h:Φ w.heap.size { w with heap:=w.heap.push o}):aZ P (newObj o) w Φ:=⟨_,_,rfl,h⟩
theorem ye{r:Nat}{o:Obj}{Φ:Obj->World->Prop}(hr:w.heap[r]?=some o)(ho:∀c e f,o≠.cells c e f)(h:Φ o w):aZ P (getObj r) w Φ:=by refine⟨o,w,?_,h⟩;simp only[getObj,Sem.run,hr]
theorem DR{r:Nat}{o o':Obj}{Φ:Unit->World->Prop}(hr:w.heap[r]?=some o)(ho:∀c e f,o≠.cells c e f)
 (h:Φ () { w with heap:=w.heap.setIfInBounds r o'}):aZ P (setObj r o') w Φ:=by
 refine⟨(),_,?_,h⟩;simp only[setObj,Sem.run,hr]
end Zx
def J6(P:Program)(t:TypeId)(d:TD):Prop:=
 match d with
 | .bool=>P.underlying t=some .bool
 | .int k=>P.underlying t=some (.int k)
 | .str=>P.underlying t=some .string
 | .ptr e=>P.underlying t=some (.pointer e)
 | .slice e=>P.underlying t=some (.slice e)
 | .arr n e=>P.underlying t=some (.array n e)
 | .map k e=>P.underlying t=some (.map k e)
 | .ru fs plain=>∃l,P.underlying t=some (.struct l)/\fs=l.toList.map (λf=>(f.type,f.offset))/\(∀f∈l.toList,∃ti,P.info? f.type=some ti)/\(plain=true->(∀f∈l,f.name ≠ "_")/\P.stoodInHeld t=false/\P.eqGuardType P.depth t=false)
 | .func=>∃a b c,P.underlying t=some (.func a b c)
 | .iface=>∃ms,P.underlying t=some (.interface ms)
 | .BL=>P.underlying t=some .unsafePointer
 | .other=>True
structure Loc where
 blk:Nat
 off:Nat
 room:Nat
abbrev Env:=K->Option Loc
mutual
inductive al (η:Env):V->Value->Prop
 | b (x):al η (.b x) (.bool x)
 | i (k n):al η (.i k n) (.int k n)
 | s (l n):n<256 ^ l->al η (.s l n) (.string (strOf l n))
 | np:al η .np (.pointer none)
 | p (b o L):η b=some L->al η (.p b o) (.pointer (some ⟨L.blk,L.off+o,none⟩))
 | ns:al η .ns (.slice none 0 0)
 | sl (b o l c L):η b=some L->al η (.sl b o l c) (.slice (some ⟨L.blk,L.off+o,none⟩) l c)
 | su (b o l e L c):η b=some L->l<=c->o+c*e<=L.room->al η (.su b o l e) (.slice (some ⟨L.blk,L.off+o,none⟩) l c)
 | se (b o e A L):η b=some L->al η (.su b o 0 e) (.slice (some A) 0 0)
 | nm:al η .nm (.map none)
 | m (b L):η b=some L->al η (.m b) (.map (some L.blk))
 | nf:al η .nf .nilFunc
 | f (g a c a' c'):bc η a a'->bc η c c'->al η (.f g a c) (.func (.func g) ⟨a'⟩ ⟨c'⟩)
 | y (l L):η l=some L->al η (.y l) (.func (.yield L.blk) #[] #[])
 | ni:al η .ni .nilIface
 | kY (t v v'):al η v v'->al η (.kY t v) (.iface t v')
 | a (l l'):bc η l l'->al η (.a l) (.agg ⟨l'⟩)
 | u (l l'):bc η l l'->al η (.u l) (.tuple ⟨l'⟩)
 | q (v):al η .q v
inductive bc (η:Env):List V->List Value->Prop
 | nil:bc η [] []
 | cons (v v' l l'):al η v v'->bc η l l'->bc η (v::l) (v'::l')
end
def Env.le(η η':Env):Prop:=∀k L,η k=some L->η' k=some L
theorem Env.le.refl(η:Env):η.le η:=λ_ _ h=>h
theorem Env.le.trans{a b c:Env}(h:a.le b)(h':b.le c):a.le c:=λk L e=>h' k L (h k L e)
mutual
theorem al.mono {η η':Env} (hη:η.le η'):∀{v:V} {x:Value},al η v x->al η' v x
 | _,_,.b x=>.b x
 | _,_,.i k n=>.i k n
 | _,_,.s l n h=>.s l n h
 | _,_,.np=>.np
 | _,_,.p b o L h=>.p b o L (hη _ _ h)
 | _,_,.ns=>.ns
 | _,_,.sl b o l c L h=>.sl b o l c L (hη _ _ h)
 | _,_,.su b o l e L c h h1 h2=>.su b o l e L c (hη _ _ h) h1 h2
 | _,_,.se b o e A L h=>.se b o e A L (hη _ _ h)
 | _,_,.nm=>.nm
 | _,_,.m b L h=>.m b L (hη _ _ h)
 | _,_,.nf=>.nf
 | _,_,.f g a c a' c' h h'=>.f g a c a' c' (bc.mono hη h) (bc.mono hη h')
 | _,_,.y l L h=>.y l L (hη _ _ h)
 | _,_,.ni=>.ni
 | _,_,.kY t v v' h=>.kY t v v' (al.mono hη h)
 | _,_,.a l l' h=>.a l l' (bc.mono hη h)
 | _,_,.u l l' h=>.u l l' (bc.mono hη h)
 | _,_,.q v=>.q v
theorem bc.mono {η η':Env} (hη:η.le η'):∀{v:List V} {x:List Value},bc η v x->bc η' v x
 | _,_,.nil=>.nil
 | _,_,.cons v v' l l' h h'=>.cons v v' l l' (al.mono hη h) (bc.mono hη h')
end
section lists
variable {η:Env}
theorem bc.length{l:List V}{l':List Value}(h:bc η l l'):l.length=l'.length:=by
 induction l generalizing l' with
 | nil=>cases h;rfl
 | cons v l ih=>cases h with | cons _ v' _ l' h1 h2=>simp[ih h2]
theorem bc.get{l:List V}{l':List Value}(h:bc η l l'){i:Nat}{v:V}(hi:l[i]?=some v):∃v',l'[i]?=some v'/\al η v v':=by
 induction l generalizing l' i with
 | nil=>simp at hi
 | cons a l ih=>
  cases h with
  | cons _ a' _ l' h1 h2=>
   cases i with
   | zero=>simp at hi;subst hi;exact⟨a',by simp,h1⟩
   | succ i=>simp at hi ⊢;exact ih h2 hi
theorem bc.G3{l:List V}{l':List Value}(hn:l.length=l'.length)(h:∀(i:Nat) (v:V),l[i]?=some v->∃v',l'[i]?=some v'/\al η v v'):bc η l l':=by
 induction l generalizing l' with
 | nil=>cases l' with | nil=>exact .nil | cons=>simp at hn
 | cons a l ih=>
  cases l' with
  | nil=>simp at hn
  | cons a' l'=>
   obtain⟨v',h1,h2⟩:=h 0 a (by simp);simp at h1;subst h1;exact .cons _ _ _ _ h2 (ih (by simpa using hn) λi v hi=>by have:=h (i+1) v (by simpa using hi);simpa using this)
theorem bc.append{l r:List V}{l' r':List Value}(h:bc η l l')(h':bc η r r'):bc η (l++r) (l'++r'):=by
 induction l generalizing l' with
 | nil=>cases h;exact h'
 | cons a l ih=>cases h with | cons _ a' _ l' h1 h2=>exact .cons _ _ _ _ h1 (ih h2)
theorem bc.sub{l:List V}{l':List Value}(h:bc η l l')(o n:Nat):bc η ((l.drop o).take n) ((l'.drop o).take n):=by
 refine bc.G3 (by simp[h.length]) λi v hi=>?_;rw[List.getElem?_take]at hi ⊢;split at hi
 ·rename_i ω;rw[au ω];rw[Bw]at hi ⊢;exact h.get hi
 ·cases hi
theorem al.one{v:V}{x:Value}(h:al η v x)(h1:v.one=true):x.sL=true/\x.cells=#[x]/\v.cells=[v]:=by cases h<;>first | (cases h1;done) | exact⟨rfl,rfl,rfl⟩
theorem bc.one{l:List V}{l':List Value}(h:bc η l l')(h1:bE l=true):∀y∈l',y.sL=true:=by
 induction l generalizing l' with
 | nil=>cases h;simp
 | cons v l ih=>
  cases h with
  | cons _ v' _ l' ha hb=>
   simp only[bE,bh]at h1;intro y hy;rcases fX.1 hy with rfl | hy
   ·exact(ha.one h1.1).1
   ·exact ih hb h1.2 y hy
theorem al.cells{v:V}{x:Value}(h:al η v x)(h1:bE v.cells=true):bc η v.cells x.cells.toList/\∀y∈x.cells.toList,y.sL=true:=by
 by_cases ho:v.one=true
 ·obtain⟨a,b,c⟩:=h.one ho;rw[b,c];exact⟨.cons _ _ _ _ h .nil,by simpa using a⟩
 ·cases h<;>first | exact absurd rfl ho | skip
  case a l l' hl=>exact⟨hl,hl.one h1⟩
  case u l l' hl=>simp[V.cells,bE,V.one]at h1
  case q=>simp[V.cells,bE,V.one]at h1
end lists
def O.mut:O->Bool
 | .c _ _ _ | .b _ _ _ | .mp _ _ | .it _ _ _ | .mi _ _ | .lp _ _ _ _ _ _=>true
 | _=>false
def eE(η:Env):List (V×V×Nat)->List MapEntry->Prop
 | [],[]=>True
 | (k,v,b)::l,e::l'=>al η k e.key/\al η v e.val/\e.born=b/\eE η l l'
 | _,_=>False
def aW(η:Env)(T:Tr V)(tmps:Array Value):Prop:=∀(t:Nat) (v:V),T.get (cz t)=some v->∃x,tmps[t]?=some x/\al η v x
def mF:Ex->Option Code
 | .normal=>none
 | .exit id=>some (.exit id)
 | .ret=>some .ret
 | .panic _=>none
def gO(W:Nat->Code->AC->Prop)(η:Env)(o:O)(L:Loc)(x:Option Obj):Prop:=
 match o with
 | .c l e fz=>∃cs fr,x=some (.cells cs e fr)/\L.off+L.room=cs.size/\l.length<=L.room/\(∀(i:Nat) (v:V),l[i]?=some v->∃y,cs[L.off+i]?=some y/\al η v y)/\(fr.2=fr.1\/fr.2<=L.off+fz)
 | .r l=>∃cs e fr,x=some (.cells cs e fr)/\∀(i:Nat) (v:V),l[i]?=some v->∃y,cs[L.off+i]?=some y/\al η v y
 | .b p q e=>L.off=0/\∃u v,x=some (.cells #[u,v] e (0,0))/\al η p u/\al η q v
 | .mp es c=>∃gw,x=some (.map gw c)/\eE η es gw.toList
 | .it l n pos=>L.off=0/\x=some (.stringIter (strOf l n) pos)/\n<256 ^ l
 | .mi b since=>L.off=0/\∃Lb,η b=some Lb/\x=some (.mapIter (some Lb.blk) since #[] since)
 | .me m c t=>L.off=0/\∃Lm since seen,η m=some Lm/\x=some (.mapIter (some Lm.blk) since seen c)/\seen.back?=some t
 | .lp ready gC T ps as body=>∃r,x=some (.loop r)/\(r.state=if ready then .ready else if gC.js then .busy else .done)/\r.pending=mF gC/\aW η T r.tmps/\ps=r.params.toList.map cz/\ou r.tmps.size r.params.toList=true/\W r.tmps.size r.assign as/\W r.tmps.size r.body body
theorem eE.mono{η η':Env}(hη:η.le η'):∀{l:List (V×V×Nat)} {l':List MapEntry},eE η l l'->eE η' l l'
 | [],[],_=>trivial
 | (_,_,_)::_,_::_,⟨a,b,c,d⟩=>⟨a.mono hη,b.mono hη,c,eE.mono hη d⟩
theorem aW.mono{η η':Env}(hη:η.le η'){T:Tr V}{t:Array Value}(h:aW η T t):aW η' T t:=
 λk v hv=>let⟨x,h1,h2⟩:=h k v hv;⟨x,h1,h2.mono hη⟩
theorem gO.mono{W:Nat->Code->AC->Prop}{η η':Env}(hη:η.le η'){o:O}{L:Loc}{x:Option Obj}(h:gO W η o L x):gO W η' o L x:=by
 cases o with
 | c l e fz=>
  obtain⟨cs,fr,h1,h2,h3,h4,h5⟩:=h;exact⟨cs,fr,h1,h2,h3,λi v hi=>let⟨y,a,b⟩:=h4 i v hi;⟨y,a,b.mono hη⟩,h5⟩
 | r l=>
  obtain⟨cs,e,fr,h1,h4⟩:=h;exact⟨cs,e,fr,h1,λi v hi=>let⟨y,a,b⟩:=h4 i v hi;⟨y,a,b.mono hη⟩⟩
 | b p q e=>obtain⟨h0,u,v,h1,h2,h3⟩:=h;exact⟨h0,u,v,h1,h2.mono hη,h3.mono hη⟩
 | mp es c=>obtain⟨gw,h1,h2⟩:=h;exact⟨gw,h1,h2.mono hη⟩
 | it l n pos=>exact h
 | mi b since=>obtain⟨h0,Lb,h1,h2⟩:=h;exact⟨h0,Lb,hη _ _ h1,h2⟩
 | me m c t=>obtain⟨h0,Lm,since,seen,h1,h2,h3⟩:=h;exact⟨h0,Lm,since,seen,hη _ _ h1,h2,h3⟩
 | lp ready gC T ps as body=>obtain⟨r,h1,h2,h3,h4,h5⟩:=h;exact⟨r,h1,h2,h3,h4.mono hη,h5⟩
structure bk(W:Nat->Code->AC->Prop)(η:Env)(H:Hp)(n:K)(w:World):Prop where
 obj:∀k o,H.get k=some o->∃L,η k=some L/\L.blk<w.heap.size/\gO W η o L w.heap[L.blk]?
 sep:∀k k' o o' L L',k≠k'->H.get k=some o->o.mut=true->H.get k'=some o'->η k=some L->η k'=some L'->L.blk≠L'.blk
 free:∀k,n.num<=k.num->η k=none
def nc(η:Env)(H:Hp)(m:Bool)(b:Nat):Prop:=∃k o L,H.get k=some o/\(m=true->o.mut=true)/\η k=some L/\L.blk=b
structure Kept(F:Nat->Prop)(w w':World):Prop where
 os:w'.os=w.os
 tape:w'.tape=w.tape
 output:w'.output=w.output
 size:w.heap.size<=w'.heap.size
 block:∀b,b<w.heap.size->¬ F b->w'.heap[b]?=w.heap[b]?
 loops:∀(b:Nat) (r:Go.Loop),w.heap[b]?=some (.loop r)->∃r',w'.heap[b]?=some (.loop r')
structure Trans(W:Nat->Code->AC->Prop)(η:Env)(H:Hp)(n:K)(w:World)(η':Env)(H':Hp)(n':K)(w':World):Prop where
 ext:η.le η'
 le:n.num<=n'.num
 rep:bk W η' H' n' w'
 kept:Kept (nc η H true) w w'
 kZ:∀m b,nc η' H' m b->nc η H m b\/w.heap.size<=b
 dR:∀k,k.num<n.num->η' k=η k
theorem Kept.refl(F:Nat->Prop)(w:World):Kept F w w:=⟨rfl,rfl,rfl,χ _,λ_ _ _=>rfl,λ_ r h=>⟨r,h⟩⟩
section trans
variable {W:Nat->Code->AC->Prop}{η η' Pp:Env}{H H' qe:Hp}{n n' nU:K}{w w' xp:World}
theorem Trans.refl(h:bk W η H n w):Trans W η H n w η H n w:=⟨.refl _,χ _,h,.refl _ _,λ_ _ h=>.inl h,λ_ _=>rfl⟩
theorem Trans.trans(h:Trans W η H n w η' H' n' w')(k:Trans W η' H' n' w' Pp qe nU xp):Trans W η H n w Pp qe nU xp where
 ext:=h.ext.trans k.ext
 le:=iH h.le k.le
 rep:=k.rep
 kept:=
  {os:=k.kept.os.trans h.kept.os
   tape:=k.kept.tape.trans h.kept.tape
   output:=k.kept.output.trans h.kept.output
   size:=iH h.kept.size k.kept.size
   block:=λb hb hF=>by
    rw[k.kept.block b (fk hb h.kept.size) λJ7=>?_,h.kept.block b hb hF];rcases h.kZ _ _ J7 with h1 | h1
    ·exact hF h1
    ·omega
   loops:=λb r hb=>let⟨r',h1⟩:=h.kept.loops b r hb;k.kept.loops b r' h1}
 kZ:=λm b hb=>by
  rcases k.kZ m b hb with h1 | h1
  ·exact h.kZ m b h1
  ·exact .inr (iH h.kept.size h1)
 dR:=λq hq=>by rw[k.dR q (fk hq h.le),h.dR q hq]
theorem bk.drawn(h:bk W η H n w)(d:Nat):bk W η H n { w with drawn:=d}:=⟨h.obj,h.sep,h.free⟩
theorem Trans.drawn(h:Trans W η H n w η' H' n' w')(d:Nat):Trans W η H n w η' H' n' { w' with drawn:=d}:=
 ⟨h.ext,h.le,h.rep.drawn d,⟨h.kept.os,h.kept.tape,h.kept.output,h.kept.size,h.kept.block,h.kept.loops⟩,h.kZ,h.dR⟩
theorem bk.less(h:bk W η H n w)(hs:∀k o,H'.get k=some o->H.get k=some o):bk W η H' n w:=
 ⟨λk o hk=>h.obj k o (hs k o hk),λk k' o o' L L' aR hk hm gJ=>h.sep k k' o o' L L' aR (hs _ _ hk) hm (hs _ _ gJ),h.free⟩
theorem bk.zO(h:bk W η H n w){k:K}{o:O}(hk:H.get k=some o):k.num<n.num:=by
 rcases jC k.num n.num with h1 | h1
 ·exact h1
 ·obtain⟨L,hL,_⟩:=h.obj k o hk;rw[h.free k h1]at hL;cases hL
theorem Trans.new(h:bk W η H n w){o:O}{ob:Obj}{room:Nat}(ho:∀η',η.le η'->gO W η' o ⟨w.heap.size,0,room⟩ (some ob)):
 ∃η',Trans W η H n w η' (H.put (some o) n) n.succ { w with heap:=w.heap.push ob}/\η' n=some ⟨w.heap.size,0,room⟩:=by
 have hn:η n=none:=h.free n (χ _);let η':Env:=λk=>if k=n then some ⟨w.heap.size,0,room⟩ else η k
 have hle:η.le η':=λk L hk=>by
  show(if k=n then _ else η k)=_
  rw[Ξ (λe=>by rw[e,hn]at hk;cases hk)];exact hk
 have qS:η' n=some ⟨w.heap.size,0,room⟩:=au rfl;have hold:∀k,k≠n->η' k=η k:=λk hk=>Ξ hk;refine⟨η',⟨hle,by rw[K.fQ];omega,⟨?_,?_,?_⟩,⟨rfl,rfl,rfl,by simp,λb hb _=>by simp[Bu];omega,λb r hb=>⟨r,by
  have ω:=(oh.1 hb).1;show(w.heap.push ob)[b]?=_;rw[Bu,Ξ (by omega)];exact hb⟩⟩,?_,λk hk=>hold k λe=>by rw[e]at hk;omega⟩,qS⟩
 ·intro k o' hk;rw[Tr.fI]at hk;by_cases sM:k=n
  ·rw[au sM]at hk;injection hk with hk;subst hk;subst sM;exact⟨_,qS,by simp,by simpa using ho η' hle⟩
  ·rw[Ξ sM]at hk;obtain⟨L,h1,h2,h3⟩:=h.obj k o' hk;refine⟨L,by rw[hold k sM];exact h1,by simp;omega,?_⟩;have:(w.heap.push ob)[L.blk]?=w.heap[L.blk]?:=by rw[Bu,Ξ (by omega)]
   rw[this];exact h3.mono hle
 ·intro k k' o1 o2 L1 L2 aR hk hm gJ hL iZ;rw[Tr.fI]at hk gJ;by_cases sM:k=n
  ·have BN:k'≠n:=λe=>aR (sM.trans e.symm);rw[Ξ BN]at gJ;obtain⟨L,h1,h2,_⟩:=h.obj k' o2 gJ;rw[hold k' BN,h1]at iZ;injection iZ with iZ;rw[sM,qS]at hL;injection hL with hL;rw[←hL,←iZ];simp;omega
  ·rw[Ξ sM]at hk;obtain⟨L,h1,h2,_⟩:=h.obj k o1 hk;rw[hold k sM,h1]at hL;injection hL with hL;by_cases BN:k'=n
   ·rw[BN,qS]at iZ;injection iZ with iZ;rw[←hL,←iZ];simp;omega
   ·rw[Ξ BN]at gJ;rw[hold k' BN]at iZ;rw[←hL];exact h.sep k k' o1 o2 L L2 aR hk hm gJ h1 iZ
 ·intro k hk;rw[K.fQ]at hk;have:k≠n:=λe=>by rw[e]at hk;omega
  rw[hold k this];exact h.free k (by omega)
 ·rintro m b ⟨k,o',L,hk,hm,hL,hb⟩;rw[Tr.fI]at hk;by_cases sM:k=n
  ·rw[sM,qS]at hL;injection hL with hL;right;rw[←hb,←hL];exact χ _
  ·rw[Ξ sM]at hk;rw[hold k sM]at hL;exact .inl ⟨k,o',L,hk,hm,hL,hb⟩
def O.DS:O->Bool
 | .lp _ _ _ _ _ _=>true
 | _=>false
theorem Zz(h:bk W η H n w){k:K}{o o':O}{L:Loc}{ob:Obj}(hk:H.get k=some o)(hL:η k=some L)(ho:gO W η o' L (some ob))(hl:o.DS=o'.DS)
 (b:Nat)(r:Go.Loop)(hb:w.heap[b]?=some (.loop r)):∃r',(w.heap.setIfInBounds L.blk ob)[b]?=some (.loop r'):=by
 rw[gB];by_cases e:L.blk=b
 ·obtain⟨L0,nV,ω,hr⟩:=h.obj k o hk;rw[hL]at nV;injection nV with nV;subst nV;rw[au e,au ω];rw[e,hb]at hr;cases o with
  | lp _ _ _ _ _ _=>
   cases o' with
   | lp _ _ _ _ _ _=>obtain⟨r',h1,_⟩:=ho;exact⟨r',h1⟩
   | _=>cases hl
  | c _ _ _=>obtain⟨_,_,h1,_⟩:=hr;cases h1
  | r _=>obtain⟨_,_,_,h1,_⟩:=hr;cases h1
  | mp _ _=>obtain⟨_,h1,_⟩:=hr;cases h1
  | mi _ _=>obtain⟨_,_,_,h1⟩:=hr;cases h1
  | me _ _ _=>obtain⟨_,_,_,_,_,h1,_⟩:=hr;cases h1
  | it _ _ _=>obtain⟨_,h1,_⟩:=hr;cases h1
  | b _ _ _=>obtain⟨_,_,_,h1,_⟩:=hr;cases h1
 ·rw[Ξ e];exact⟨r,hb⟩
theorem Trans.write(h:bk W η H n w){k:K}{o o':O}{L:Loc}{ob:Obj}(hk:H.get k=some o)(hm:o.mut=true)(hL:η k=some L)
 (ho:gO W η o' L (some ob)){w':World}(hw:w'={ w with heap:=w.heap.setIfInBounds L.blk ob})(hl:o.DS=o'.DS:=by rfl):
 Trans W η H n w η (H.put (some o') k) n w':=by
 subst hw;obtain⟨L0,nV,ω,_⟩:=h.obj k o hk;rw[hL]at nV;injection nV with nV;subst nV;refine⟨.refl _,χ _,⟨?_,?_,h.free⟩,⟨rfl,rfl,rfl,by simp,λb hb hF=>?_,Zz h hk hL ho hl⟩,?_,λ_ _=>rfl⟩
 ·intro k' o1 gJ;rw[Tr.fI]at gJ;by_cases e:k'=k
  ·rw[au e]at gJ;injection gJ with gJ;subst gJ;subst e;exact⟨L,hL,by simpa using ω,by simpa[gB,ω]using ho⟩
  ·rw[Ξ e]at gJ;obtain⟨L1,h1,h2,h3⟩:=h.obj k' o1 gJ;refine⟨L1,h1,by simpa using h2,?_⟩;have aR:=h.sep k k' o o1 L L1 (λe'=>e e'.symm) hk hm gJ hL h1;rw[gB,Ξ aR];exact h3
 ·intro k1 k2 o1 o2 L1 L2 aR h1 sN h2 tK yW;rw[Tr.fI]at h1 h2;by_cases e1:k1=k
  ·have e2:k2≠k:=λe=>aR (e1.trans e.symm);rw[Ξ e2]at h2;rw[e1]at tK;exact h.sep k k2 o o2 L1 L2 (λe=>e2 e.symm) hk hm h2 tK yW
  ·rw[Ξ e1]at h1;by_cases e2:k2=k
   ·rw[e2]at yW;exact h.sep k1 k o1 o L1 L2 e1 h1 sN hk tK yW
   ·rw[Ξ e2]at h2;exact h.sep k1 k2 o1 o2 L1 L2 aR h1 sN h2 tK yW
 ·rw[gB,Ξ];intro e;exact hF ⟨k,o,L,hk,λ_=>hm,hL,e⟩
 ·rintro m b ⟨k',o1,L1,gJ,sN,tK,hb⟩;rw[Tr.fI]at gJ;by_cases e:k'=k
  ·rw[e,hL]at tK;injection tK with tK;exact .inl ⟨k,o,L,hk,λ_=>hm,hL,by rw[tK];exact hb⟩
  ·rw[Ξ e]at gJ;exact .inl ⟨k',o1,L1,gJ,sN,tK,hb⟩
end trans
end
section
def mG(c:Array Value)(o:Nat):List Value->Array Value
 | []=>c
 | v::l=>mG (c.setIfInBounds o v) (o+1) l
theorem G4(c:Array Value)(o:Nat)(l:List Value):(mG c o l).size=c.size:=by
 induction l generalizing c o with
 | nil=>rfl
 | cons v l ih=>simp[mG,ih]
theorem G5(c:Array Value)(o:Nat)(l:List Value)(h:o+l.length<=c.size)(j:Nat):
 (mG c o l)[j]?=if o<=j/\j<o+l.length then l[j - o]? else c[j]?:=by
 induction l generalizing c o with
 | nil=>simp only[mG,p9];rw[Ξ (by omega)]
 | cons v l ih=>
  simp only[fH]at h;simp only[mG];rw[ih _ _ (by simp;omega)];by_cases h1:o+1<=j/\j<o+1+l.length
  ·rw[au h1,au (by simp;omega)];have:j - o=(j - (o+1))+1:=by omega
   rw[this];simp
  ·rw[Ξ h1,gB];by_cases h2:o=j
   ·subst h2;rw[au rfl,au (by omega),au (by simp)];simp
   ·rw[Ξ h2,Ξ (by simp only[fH];omega)]
theorem G6{w:World}{b o:Nat}{c:Array Value}{e:TypeId}{fr:Nat×Nat}(h:w.heap[b]?=some (.cells c e fr)):
 w.cell? ⟨b,o,none⟩=c[o]?:=by simp[World.cell?,h]
theorem ZA{w:World}{b o:Nat}{c:Array Value}{e:TypeId}{fr:Nat×Nat}(h:w.heap[b]?=some (.cells c e fr)):
 w.frozen? ⟨b,o,none⟩=(decide (fr.1<=o)&&decide (o<fr.2)):=by
 obtain⟨lo,hi⟩:=fr;simp[World.frozen?,h]
theorem ZB{w:World}{b o:Nat}{c:Array Value}{e:TypeId}{fr:Nat×Nat}(h:w.heap[b]?=some (.cells c e fr))(v:Value):
 w.setCell ⟨b,o,none⟩ v={ w with heap:=w.heap.setIfInBounds b (.cells (c.setIfInBounds o v) e fr)}:=by
 have hb:b<w.heap.size:=by
  rcases jC b w.heap.size with h1 | h1
  ·exact h1
  ·rw[Array.getElem?_eq_none h1]at h;cases h
 have hg:w.heap[b]=.cells c e fr:=by rw[nz hb]at h;injection h
 simp only[World.setCell];congr 1;apply Array.ext_getElem?;intro i;rw[Array.getElem?_modify,gB];by_cases hi:b=i
 ·subst hi;simp[hb,hg]
 ·rw[Ξ hi,Ξ hi]
theorem sO(b o n:Nat):(⟨b,o,none⟩:Addr).add n=⟨b,o+n,none⟩:=by
 unfold Addr.add;split
 ·rename_i h;simp[h]
 ·rfl
section ZC
variable {P:Program}{w:World}
theorem ZD{b o:Nat}{c:Array Value}{e:TypeId}{fr:Nat×Nat}(h:w.heap[b]?=some (.cells c e fr))(n i:Nat)(acc:Array Value)
 (hn:o+i+n<=c.size):aZ P (loadCellsFrom ⟨b,o,none⟩ i n acc) w λr w'=>r=acc++((c.toList.drop (o+i)).take n).toArray/\w'=w:=by
 induction n generalizing i acc with
 | zero=>exact aa ⟨by simp,rfl⟩
 | succ n ih=>
  have ω:o+i<c.size:=by omega
  refine ψ ?_;rw[sO];refine J5 (v:=c[o+i]) (by rw[G6 h,nz ω]) ?_;refine(ih (i+1) (acc.push c[o+i]) (by omega)).mono ?_;rintro r w' ⟨rfl,rfl⟩;refine⟨?_,rfl⟩;have hd:c.toList.drop (o+i)=c[o+i]::c.toList.drop (o+i+1):=by rw[fC (by simpa using ω)];simp
  rw[hd,sD];apply jP;simp[mE]
theorem Pq{b o:Nat}{c:Array Value}{e:TypeId}{fr:Nat×Nat}(h:w.heap[b]?=some (.cells c e fr))(n:Nat)
 (hn:o+n<=c.size):aZ P (loadCells ⟨b,o,none⟩ n) w λr w'=>r=((c.toList.drop o).take n).toArray/\w'=w:=
 (ZD h n 0 #[] (by omega)).mono λr w' ⟨h1,h2⟩=>⟨by simpa using h1,h2⟩
theorem J8{b o:Nat}{c:Array Value}{e:TypeId}{fr:Nat×Nat}(vs:List Value)(i:Nat)(h:w.heap[b]?=some (.cells c e fr))
 (hn:o+i+vs.length<=c.size)(hf:fr.2<=fr.1\/fr.2<=o+i)(h1:∀v∈vs,v.sL=true):
 aZ P (storeCells ⟨b,o,none⟩ vs i) w λ_ w'=>w'={ w with heap:=w.heap.setIfInBounds b (.cells (mG c (o+i) vs) e fr)}:=by
 induction vs generalizing i c w with
 | nil=>
  refine aa ?_;have:w.heap.setIfInBounds b (.cells c e fr)=w.heap:=by
   apply Array.ext_getElem?;intro j;rw[gB];by_cases hj:b=j
   ·subst hj;rw[au rfl];split
    ·exact h.symm
    ·rename_i hx;rw[Array.getElem?_eq_none (by omega)]at h;cases h
   ·rw[Ξ hj]
  simp only[mG,this]
 | cons v vs ih=>
  simp only[fH]at hn;have ω:o+i<c.size:=by omega
  have hb:b<w.heap.size:=by
   rcases jC b w.heap.size with h2 | h2
   ·exact h2
   ·rw[Array.getElem?_eq_none h2]at h;cases h
  refine ψ ?_;rw[sO];refine Zy (h1 v (by simp)) (v0:=c[o+i]) (by rw[G6 h,nz ω]) ?_ ?_
  ·rw[ZA h];simp;omega
  ·rw[ZB h];refine(ih (w:={ w with heap:=w.heap.setIfInBounds b (.cells (c.setIfInBounds (o+i) v) e fr)}) (c:=c.setIfInBounds (o+i) v) (i+1)
    (by simp[gB,hb]) (by simp;omega) (by omega) (λx hx=>h1 x (by simp[hx]))).mono ?_
   rintro _ w' rfl;simp[mG,mE]
end ZC
structure wH(P:Program)(t:TypeId)(i:TI):Prop where
 desc:J6 P t i.desc
 info:∃ti z,P.info? t=some ti/\ti.size=i.size/\ti.bytes=i.bytes/\ti.zero=some z/\xW z.cells.toList=some i.zero/\(i.desc.agg=true->∃l,z=.agg l)/\(i.desc.agg=false->z.sL=true)/\i.zero.length=i.size/\bE i.zero=true
 other:i.desc=.other->∃d,P.underlying t=some d/\(∀fs,d≠.struct fs)/\(∀n e,d≠.array n e)
structure dI(P:Program)(ty:Ty):Prop where
 ok:∀t i,ty t=some i->wH P t i
 ZE:(P.info? ty.b).map (·.size)=some 2
 ZF:liesAt P P.depth ty.b (2 / P.cellsOf ty.b) 0 ty.b 1=true
section types
variable {P:Program}{w:World}
theorem br{t:TypeId}{d:TypeDesc}{Φ:TypeDesc->World->Prop}(h:P.underlying t=some d)(k:Φ d w):aZ P (underlying t) w Φ:=by refine ψ (DQ ?_);simp only[h];exact aa k
theorem yf{t:TypeId}{i:TypeInfo}{Φ:TypeInfo->World->Prop}(h:P.info? t=some i)(k:Φ i w):aZ P (typeInfo t) w Φ:=by refine ψ (DQ ?_);simp only[h];exact aa k
theorem mH{t:TypeId}{i:TI}{Φ:Nat->World->Prop}(h:wH P t i)(k:Φ i.size w):aZ P (sizeOf t) w Φ:=by obtain⟨ti,z,h1,h2,_⟩:=h.info;exact ψ (yf h1 (aa (h2▸k)))
theorem Ps{t:TypeId}{i:TI}{Φ:Bool->World->Prop}(h:wH P t i)(k:Φ i.desc.agg w):aZ P (isAgg t) w Φ:=by
 have hd:=h.desc;have ho:=h.other;obtain⟨d,sz,by_,zr⟩:=i;cases d with
 | ru fs plain=>obtain⟨l,h1,_⟩:=hd;exact ψ (br h1 (aa k))
 | arr n e=>exact ψ (br hd (aa k))
 | other=>
  obtain⟨d,h1,h2,h3⟩:=ho rfl;refine ψ (br h1 ?_);cases d<;>first | exact absurd rfl (h2 _) | exact absurd rfl (h3 _ _) | exact aa k
 | func=>obtain⟨_,_,_,h1⟩:=hd;exact ψ (br h1 (aa k))
 | iface=>obtain⟨_,h1⟩:=hd;exact ψ (br h1 (aa k))
 | bool=>exact ψ (br hd (aa k))
 | int _=>exact ψ (br hd (aa k))
 | str=>exact ψ (br hd (aa k))
 | ptr _=>exact ψ (br hd (aa k))
 | BL=>exact ψ (br hd (aa k))
 | slice _=>exact ψ (br hd (aa k))
 | map _ _=>exact ψ (br hd (aa k))
mutual
theorem J9 (η:Env):∀{x:Value} {v:V},gD x=some v->al η v x
 | .bool b,v,h=>by simp only[gD]at h;injection h with h;subst h;exact .b _
 | .int k n,v,h=>by simp only[gD]at h;injection h with h;subst h;exact .i _ _
 | .string s,v,h=>by simp only[gD]at h;injection h with h;subst h;have h1:=Zw s.data.toList;have h2:=Pn s;have:al η (.s s.size (bp s.data.toList)) (.string (strOf s.size (bp s.data.toList))):=.s _ _ (by simpa using h1);rw[h2]at this;exact this
 | .pointer none,v,h=>by simp only[gD]at h;injection h with h;subst h;exact .np
 | .slice none 0 0,v,h=>by simp only[gD]at h;injection h with h;subst h;exact .ns
 | .map none,v,h=>by simp only[gD]at h;injection h with h;subst h;exact .nm
 | .func (.func f) ⟨[]⟩ ⟨[]⟩,v,h=>by simp only[gD]at h;injection h with h;subst h;exact .f _ _ _ _ _ .nil .nil
 | .nilFunc,v,h=>by simp only[gD]at h;injection h with h;subst h;exact .nf
 | .nilIface,v,h=>by simp only[gD]at h;injection h with h;subst h;exact .ni
 | .iface t x,v,h=>by
  simp only[gD]at h;split at h
  ·rename_i v' hv;injection h with h;subst h;exact .kY _ _ _ (J9 η hv)
  ·cases h
 | .agg ⟨l⟩,v,h=>by
  simp only[gD]at h;split at h
  ·rename_i v' hv;injection h with h;subst h;exact .a _ _ (wI η hv)
  ·cases h
 | .tuple ⟨l⟩,v,h=>by
  simp only[gD]at h;split at h
  ·rename_i v' hv;injection h with h;subst h;exact .u _ _ (wI η hv)
  ·cases h
 | .float ..,_,h=>by simp[gD]at h
 | .complex ..,_,h=>by simp[gD]at h
 | .pointer (some _),_,h=>by simp[gD]at h
 | .slice (some _) _ _,_,h=>by simp[gD]at h
 | .slice none (_+1) _,_,h=>by simp[gD]at h
 | .slice none 0 (_+1),_,h=>by simp[gD]at h
 | .map (some _),_,h=>by simp[gD]at h
 | .chan _,_,h=>by simp[gD]at h
 | .func (.method _) _ _,_,h=>by simp[gD]at h
 | .func (.methodOf _ _) _ _,_,h=>by simp[gD]at h
 | .func (.via _ _ _ _) _ _,_,h=>by simp[gD]at h
 | .func (.yield _) _ _,_,h=>by simp[gD]at h
 | .func (.func _) ⟨_::_⟩ _,_,h=>by simp[gD]at h
 | .func (.func _) ⟨[]⟩ ⟨_::_⟩,_,h=>by simp[gD]at h
theorem wI (η:Env):∀{x:List Value} {v:List V},xW x=some v->bc η v x
 | [],v,h=>by simp only[xW]at h;injection h with h;subst h;exact .nil
 | x::l,v,h=>by
  simp only[xW]at h;split at h
  ·rename_i v1 l1 hv hl;injection h with h;subst h;exact .cons _ _ _ _ (J9 η hv) (wI η hl)
  ·cases h
end
theorem sP{t:TypeId}{i:TI}{Φ:Value->World->Prop}(h:wH P t i)
 (k:∀z,(∀η,bc η i.zero z.cells.toList)->(∀η,al η i.zeroV z)->(∀y∈z.cells.toList,y.sL=true)->z.cells.size=i.size->Φ z w):aZ P (zeroValue t) w Φ:=by
 obtain⟨ti,z,h1,h2,h3,h4,h5,h6,h7,h8,h9⟩:=h.info;refine ψ (yf h1 ?_);simp only[h4];refine aa (k z (λη=>wI η h5) (λη=>?_) ?_ ?_)
 ·unfold TI.zeroV;cases ha:i.desc.agg with
  | true=>
   obtain⟨l,rfl⟩:=h6 ha;obtain⟨l⟩:=l;exact .a _ _ (wI η h5)
  | false=>
   have hz:=h7 ha;have hc:z.cells=#[z]:=by cases z<;>first | rfl | (simp[Value.sL]at hz)
   have Ja:=wI η h5;rw[hc]at Ja;generalize i.zero=zs at Ja;cases Ja with
   | cons v v' l l' a b=>cases b;exact a
 ·exact(wI (λ_=>none) h5).one h9
 ·rw[←h8,(wI (λ_=>none) h5).length];simp
end types
end
section
def ai(tmps:Array Value):Operand->Value
 | .tmp t=>tmps.getD t undef
 | .const v=>v
 | .global g=>.pointer (some ⟨g,0,none⟩)
 | .func f=>.func (.func f) #[] #[]
def ch(η:Env)(G:Nat):Prop:=∀g,g<G->∃L,η (cz g)=some L/\L.blk=g/\L.off=0
theorem ch.mono{η η':Env}{G:Nat}(h:ch η G)(hη:η.le η'):ch η' G:=λg hg=>let⟨L,a,b⟩:=h g hg;⟨L,hη _ _ a,b⟩
def fw(P:Program)(W:Nat->Code->AC->Prop)(η:Env)(H:Hp)(n:K)(w:World)(s:Sem Next)(v:V)(H':Hp)(n':K):Prop:=
 aZ P s w λx w'=>∃η',Trans W η H n w η' H' n' w'/\((∃y,x=.value y/\al η' v y)\/(x=.skip/\v=.u []))
section ops
variable {P:Program}{ty:Ty}{W:Nat->Code->AC->Prop}{η:Env}{T:Tr V}{H H':Hp}{n n':K}{w:World}{tmps:Array Value}{v:V}
theorem cw(hT:aW η T tmps)(hG:ch η ty.g){x:Operand}{a:ax}{v:V}(h:bK ty x=some a)(hv:aq T a=some v):al η v (ai tmps x):=by
 cases x with
 | tmp t=>
  simp only[bK]at h;injection h with h;subst h;obtain⟨y,h1,h2⟩:=hT t v hv;show al η v (tmps.getD t undef);rw[xF,h1];exact h2
 | const c=>
  simp only[bK]at h;split at h
  ·rename_i v' nW;injection h with h;subst h;simp only[aq]at hv;injection hv with hv;subst hv;exact J9 η nW
  ·cases h
 | global g=>
  simp only[bK]at h;cases hb:Nat.blt g ty.g with
  | false=>rw[hb]at h;cases h
  | true=>
   rw[hb]at h;injection h with h;subst h;simp only[aq]at hv;injection hv with hv;subst hv;obtain⟨L,h1,h2,h3⟩:=hG g (by have:g+1<=ty.g:=nD hb;omega);have:=al.p (η:=η) (cz g) 0 L h1;rw[h2,h3]at this;exact this
 | func f=>
  simp only[bK]at h;injection h with h;subst h;simp only[aq]at hv;injection hv with hv;subst hv;exact .f _ _ _ _ _ .nil .nil
theorem BO(hT:aW η T tmps)(hG:ch η ty.g){l:List Operand}{as:List ax}{vs:List V}(h:po ty l=some as)(hv:fD T as=some vs):
 bc η vs (l.map (ai tmps)):=by
 induction l generalizing as vs with
 | nil=>
  simp only[po]at h;injection h with h;subst h;simp only[fD]at hv;injection hv with hv;subst hv;exact .nil
 | cons x l ih=>
  simp only[po]at h;split at h
  ·rename_i a F6 ha has;injection h with h;subst h;simp only[fD]at hv;split at hv
   ·rename_i v' DT nW F7;injection hv with hv;subst hv;exact .cons _ _ _ _ (cw hT hG ha nW) (ih has F7)
   ·cases hv
  ·cases h
theorem lf{x:Option V}(h:dX H n x=some (v,H',n')):x=some v/\H'=H/\n'=n:=by
 cases x with
 | none=>cases h
 | some y=>simp only[dX]at h;injection h with h;injection h with h1 h2;injection h2 with h2 h3;exact⟨by rw[h1],h2.symm,h3.symm⟩
theorem gz{s:Sem Value}(h:aZ P s w λy w'=>∃η',Trans W η H n w η' H' n' w'/\al η' v y):fw P W η H n w (do pure (.value (←s))) v H' n':=
 ψ (h.mono λy _ ⟨η',a,b⟩=>aa ⟨η',a,.inl ⟨y,rfl,b⟩⟩)
theorem ZG{s:Sem Unit}(h:aZ P s w λ_ w'=>∃η',Trans W η H n w η' H' n' w'):fw P W η H n w (do s;pure .skip) (.u []) H' n':=
 ψ (h.mono λ_ _ ⟨η',a⟩=>aa ⟨η',a,.inr ⟨rfl,rfl⟩⟩)
theorem Oa{y:Value}(hH:bk W η H n w)(h:al η v y):fw P W η H n w (pure (.value y)) v H n:=
 aa ⟨η,.refl hH,.inl ⟨y,rfl,h⟩⟩
theorem Pt(hH:bk W η H n w){b:K}{l:List V}(h:rowAt H b=some l):
 ∃L cs e fr,η b=some L/\w.heap[L.blk]?=some (.cells cs e fr)/\∀(i:Nat) (v:V),l[i]?=some v->∃y,cs[L.off+i]?=some y/\al η v y:=by
 unfold rowAt at h;split at h
 ·rename_i o ho;obtain⟨L,h1,h2,h3⟩:=hH.obj b o ho;cases o<;>first | (simp[O.row]at h;done) | skip
  ·simp only[O.row]at h;injection h with h;subst h;obtain⟨cs,fr,a,_,_,d,_⟩:=h3;exact⟨L,cs,_,fr,h1,a,d⟩
  ·simp only[O.row]at h;injection h with h;subst h;obtain⟨cs,e,fr,a,d⟩:=h3;exact⟨L,cs,e,fr,h1,a,d⟩
  ·simp only[O.row]at h;injection h with h;subst h;obtain⟨h0,u,q,a,d1,d2⟩:=h3;refine⟨L,#[u,q],_,_,h1,a,λi v hi=>?_⟩;rw[h0,iI];rcases i with _ | _ | i
   ·simp at hi;subst hi;exact⟨u,rfl,d1⟩
   ·simp at hi;subst hi;exact⟨q,rfl,d2⟩
   ·simp at hi
 ·cases h
theorem Ka(hH:bk W η H n w){b:K}{l r:List V}{o z:Nat}(h:rowAt H b=some l)(hr:db l o z=some r):
 ∃L cs e fr,η b=some L/\w.heap[L.blk]?=some (.cells cs e fr)/\(z=0\/L.off+o+z<=cs.size)/\bc η r ((cs.toList.drop (L.off+o)).take z):=by
 obtain⟨L,cs,e,fr,h1,h2,h3⟩:=Pt hH h;obtain⟨rfl,hn⟩:=ow hr;have eF:z=0\/L.off+o+z<=cs.size:=by
  cases z with
  | zero=>exact .inl U
  | succ z=>
   right;obtain⟨y,hy,_⟩:=h3 (o+z) l[o+z] (by rw[fO (by omega)]);have:=(oh.1 hy).1;omega
 refine⟨L,cs,e,fr,h1,h2,eF,?_⟩;refine bc.G3 ?_ λi v hi=>?_
 ·rw[ri,ri,uv,uv];rcases eF with rfl | eF
  ·simp
  ·simp;omega
 ·rw[List.getElem?_take]at hi ⊢;split at hi
  ·rename_i ω;rw[au ω];rw[Bw]at hi ⊢;obtain⟨y,hy,hv⟩:=h3 _ _ hi;refine⟨y,?_,hv⟩;rw[nE];rw[show L.off+o+i=L.off+(o+i) by omega];exact hy
  ·cases hi
theorem Pu{t:TypeId}{i:TI}(hi:wH P t i)(hH:bk W η H n w){a:V}{A:Addr}(ha:al η a (.pointer (some A)))(h:wc H i.desc.agg i.size a=some v):
 aZ P (loadVar t A) w λy w'=>al η v y/\w'=w:=by
 unfold wc at h;split at h
 ·rename_i b o;split at h
  ·rename_i l hl;cases ha with
   | p b o L hL=>
    refine ψ (Ps hi ?_);cases hg:i.desc.agg with
    | true=>
     rw[hg]at h;simp only[cond_true]at h;split at h
     ·rename_i r hr;injection h with h;subst h;obtain⟨L',cs,e,fr,h1,h2,h3,h4⟩:=Ka hH hl hr;rw[hL]at h1;injection h1 with h1;subst h1;simp only[if_true];refine ψ (mH hi ?_);refine ψ ?_;rcases h3 with h3 | h3
      ·rw[h3];exact aa (aa ⟨by rw[h3]at h4;simpa using al.a _ _ h4,rfl⟩)
      ·refine(Pq h2 i.size h3).mono ?_;rintro r' w' ⟨rfl,rfl⟩;exact aa ⟨.a _ _ h4,rfl⟩
     ·cases h
    | false=>
     rw[hg]at h;simp only[cond_false]at h;rw[pr]at h;obtain⟨L',cs,e,fr,h1,h2,h3⟩:=Pt hH hl;rw[hL]at h1;injection h1 with h1;subst h1;obtain⟨y,hy,hv⟩:=h3 o v h;simp only[mC,if_false];exact J5 (by rw[G6 h2];exact hy) ⟨hv,rfl⟩
  ·cases h
 ·cases h
theorem ZH(aI:dI P ty)(hT:aW η T tmps)(hG:ch η ty.g)(hH:bk W η H n w){t:TypeId}{x:Operand}{a:A}(hc:dZ ty (.load t x)=some a)
 (hs:simple a T H n=some (v,H',n')):fw P W η H n w (do pure (.value (←Instr.loadAt t (ai tmps x)))) v H' n':=by
 simp only[dZ]at hc;split at hc
 ·rename_i i x' hi hx;injection hc with hc;subst hc;simp only[simple]at hs;split at hs
  ·rename_i a ha;obtain⟨h1,rfl,rfl⟩:=lf hs;have hr:=cw hT hG hx ha;have hp:∃A,ai tmps x=.pointer (some A):=by
    unfold wc at h1;split at h1
    ·generalize ai tmps x=y at hr;cases hr;exact⟨_,rfl⟩
    ·cases h1
   obtain⟨A,hA⟩:=hp;rw[hA]at hr ⊢;refine gz (ψ (aa ((Pu (aI.ok _ _ hi) hH hr h1).mono ?_)));rintro y w' ⟨h2,rfl⟩;exact⟨η,.refl hH,h2⟩
  ·cases hs
 ·cases hc
theorem G7(hH:bk W η H n w){b:K}{o:Nat}{vs:List V}{xs:List Value}(hv:bc η vs xs)(h:iu H b o vs=some H'):
 ∃L,η b=some L/\aZ P (storeCells ⟨L.blk,L.off+o,none⟩ xs) w λ_ w'=>Trans W η H n w η H' n w':=by
 unfold iu at h;split at h
 ·rename_i l e fz ho;cases hb:(Nat.ble fz o&&bE vs) with
  | false=>rw[hb]at h;cases h
  | true=>
   rw[hb]at h;simp only[cond_true]at h;split at h
   ·rename_i l' hl;injection h with h;subst h;rw[bh]at hb;have Kb:fz<=o:=nD hb.1;obtain⟨L,h1,h2,cs,fr,h3,h4,h5,h6,h7⟩:=hH.obj b _ ho;obtain⟨g1,g2,g3⟩:=J3 hl;refine⟨L,h1,?_⟩;have hn:L.off+o+0+xs.length<=cs.size:=by rw[←hv.length];omega
    refine(J8 xs 0 h3 hn (by omega) (hv.one hb.2)).mono ?_;rintro _ w' rfl;refine Trans.write hH ho rfl h1 ?_ rfl;refine⟨_,fr,rfl,by rw[G4];exact h4,by omega,λi v hi=>?_,h7⟩;rw[G5 _ _ _ (by omega)];rw[g3]at hi;by_cases qg:o<=i/\i<o+vs.length
    ·rw[au qg]at hi;rw[au (by rw[←hv.length];omega)];have:=hv.get hi;rw[show L.off+i - (L.off+o+0)=i - o by omega];exact this
    ·rw[Ξ qg]at hi;rw[Ξ (by rw[←hv.length];omega)];exact h6 i v hi
   ·cases h
 ·rename_i x y e ho;cases hb:bE vs with
  | false=>rw[hb]at h;cases h
  | true=>
   rw[hb]at h;simp only[cond_true]at h;split at h
   ·rename_i x' y' hl;injection h with h;subst h;obtain⟨L,h1,h2,h0,u,q,h3,h4,h5⟩:=hH.obj b _ ho;obtain⟨g1,g2,g3⟩:=J3 hl;refine⟨L,h1,?_⟩;have hn:L.off+o+0+xs.length<=(#[u,q]:Array Value).size:=by
     rw[←hv.length,h0];simp at g2 ⊢;omega
    refine(J8 xs 0 h3 hn (by simp) (hv.one hb)).mono ?_;rintro _ w' rfl;refine Trans.write (o':=.b x' y' e) hH ho rfl h1 ?_ rfl;have eF:(mG #[u,q] (L.off+o+0) xs).size=2:=by rw[G4];rfl
    have get:∀(i:Nat) (v:V),[x',y'][i]?=some v->∃z,(mG #[u,q] (L.off+o+0) xs)[i]?=some z/\al η v z:=by
     intro i v hi;rw[G5 _ _ _ (by omega)];rw[g3]at hi;by_cases qg:o<=i/\i<o+vs.length
     ·rw[au qg]at hi;rw[au (by rw[←hv.length];omega)];have:=hv.get hi;rw[show i - (L.off+o+0)=i - o by omega];exact this
     ·rw[Ξ qg]at hi;rw[Ξ (by rw[←hv.length];omega)];rcases i with _ | _ | i
      ·simp at hi;subst hi;exact⟨u,rfl,h4⟩
      ·simp at hi;subst hi;exact⟨q,rfl,h5⟩
      ·simp at hi
    obtain⟨z0,e0,r0⟩:=get 0 x' rfl;obtain⟨z1,e1,r1⟩:=get 1 y' rfl;refine⟨h0,z0,z1,?_,r0,r1⟩;congr 2;generalize mG #[u,q] (L.off+o+0) xs=A at eF e0 e1;apply Array.ext
    ·rw[eF];rfl
    ·intro i hi1 X0;rcases i with _ | _ | i
     ·rw[nz (by omega)]at e0;injection e0
     ·rw[nz (by omega)]at e1;injection e1
     ·simp at X0;omega
   ·cases h
 ·cases h
theorem ZI(aI:dI P ty)(hT:aW η T tmps)(hG:ch η ty.g)(hH:bk W η H n w){t:TypeId}{x y:Operand}{a:A}(hc:dZ ty (.store t x y)=some a)
 (hs:simple a T H n=some (v,H',n')):fw P W η H n w (do Instr.storeAt t (ai tmps x) (ai tmps y);pure .skip) v H' n':=by
 simp only[dZ]at hc;split at hc
 ·rename_i i x' y' hi hx hy;injection hc with hc;subst hc;simp only[simple]at hs;split at hs
  ·rename_i a b ha hb;have Kc:=cw hT hG hx ha;have Ob:=cw hT hG hy hb;unfold CX at hs;split at hs
   ·rename_i k o;cases hc:Nat.beq b.cells.length i.size with
    | false=>rw[hc]at hs;cases hs
    | true=>
     rw[hc]at hs;simp only[cond_true]at hs;cases dJ:iu H k o b.cells with
     | none=>rw[dJ]at hs;cases hs
     | some H1=>
      rw[dJ]at hs;simp only[qd]at hs;injection hs with hs;injection hs with e1 e2;injection e2 with e2 e3;subst e1;subst e2;subst e3;have jc:bE b.cells=true:=by
       unfold iu at dJ;split at dJ
       ·cases hq:bE b.cells with
        | true=>rfl
        | false=>rw[hq,Bool.and_false]at dJ;cases dJ
       ·cases hq:bE b.cells with
        | true=>rfl
        | false=>rw[hq]at dJ;cases dJ
       ·cases dJ
      obtain⟨yX,zP⟩:=Ob.cells jc;obtain⟨L,hL,hd⟩:=G7 (P:=P) hH yX dJ;refine ZG ?_;generalize ai tmps x=p at Kc;cases Kc with
      | p _ _ L' iZ=>
       rw[hL]at iZ;injection iZ with iZ;subst iZ;refine ψ (aa ?_);refine ψ (mH (aI.ok _ _ hi) ?_);have:(ai tmps y).cells.size=i.size:=by have h1:=yX.length;have h2:b.cells.length=i.size:=cL hc;simp at h1;omega
       simp only[this,ne_eq,not_true_eq_false,if_false];refine ψ (aa ?_);exact hd.mono λ_ w' h=>⟨η,h⟩
   ·cases hs
  ·cases hs
 ·cases hc
theorem ZJ(aI:dI P ty)(hH:bk W η H n w){t:TypeId}{a:A}(hc:dZ ty (.alloc t)=some a)(hs:simple a T H n=some (v,H',n')):
 fw P W η H n w (do pure (.value (←Instr.alloc t true (.tuple #[])))) v H' n':=by
 simp only[dZ]at hc;split at hc
 ·rename_i i hi;cases hb:Nat.beq t ty.b with
  | true=>
   rw[hb]at hc;simp only[cond_true]at hc;split at hc
   case h_2=>cases hc
   rename_i x y hz0;injection hc with hc;subst hc;simp only[simple,kp]at hs;injection hs with hs;injection hs with e1 e2;injection e2 with e2 e3;subst e1;subst e2;subst e3;refine gz ?_;refine ψ (sP (aI.ok _ _ hi) λz hz _ gK eF=>?_);refine ψ (ψ (ψ (wG ?_)));obtain⟨η',h1,h2⟩:=Trans.new (room:=2) (o:=.b x y t) (ob:=.cells z.cells t) hH (λη' hle=>by
    have h:=hz η';rw[hz0]at h;generalize jQ:z.cells=A at h;obtain⟨A⟩:=A;cases h with
    | cons _ u _ l h1 h2=>
     cases h2 with
     | cons _ q _ l h2 h3=>
      cases h3;exact⟨rfl,u,q,rfl,h1,h2⟩)
   refine aa (aa (aa ⟨η',h1,?_⟩));have:=al.p (η:=η') n 0 _ h2;exact this
  | false=>
  rw[hb]at hc;simp only[cond_false]at hc;injection hc with hc;subst hc;simp only[simple,kp]at hs;injection hs with hs;injection hs with e1 e2;injection e2 with e2 e3;subst e1;subst e2;subst e3;refine gz ?_;refine ψ (sP (aI.ok _ _ hi) λz hz _ gK eF=>?_);refine ψ (ψ (ψ (wG ?_)));have hl:i.zero.length=z.cells.size:=by rw[(hz η).length];simp
  obtain⟨η',h1,h2⟩:=Trans.new (room:=z.cells.size) (o:=.c i.zero t 0) (ob:=.cells z.cells t) hH (λη' hle=>⟨z.cells,(0,0),rfl,by simp,by simp;omega,λj v hj=>by have:=(hz η').get hj;simpa using this,.inl U⟩)
  refine aa (aa (aa ⟨η',h1,?_⟩));have:=al.p (η:=η') n 0 _ h2;exact this
 ·cases hc
end ops
end
section
section ops
variable {P:Program}{ty:Ty}{W:Nat->Code->AC->Prop}{η:Env}{T:Tr V}{H H':Hp}{n n':K}{w:World}{tmps:Array Value}{v:V}
theorem G8(hH:bk W η H n w)(e:TypeId){l:List V}{xs:List Value}(hl:bc η l xs)(more:List Value):
 ∃η',Trans W η H n w η' (H.put (some (.c l e 0)) n) n.succ { w with heap:=w.heap.push (.cells (xs++more).toArray e)}/\η' n=some ⟨w.heap.size,0,xs.length+more.length⟩:=
 Trans.new hH λη' hle=>⟨(xs++more).toArray,(0,0),rfl,by simp,by show l.length<=xs.length+more.length;rw[hl.length];omega,λj v hj=>by obtain⟨y,h1,h2⟩:=hl.get hj;refine⟨y,?_,h2.mono hle⟩;have ω:j<xs.length:=(oj.1 h1).1;simp[wu ω,h1],.inl U⟩
theorem pv{o:O}{x:V}(h:kp H n o x=some (v,H',n')):v=x/\H'=H.put (some o) n/\n'=n.succ:=by simp only[kp]at h;injection h with h;injection h with h1 h2;injection h2 with h2 h3;exact⟨h1.symm,h2.symm,h3.symm⟩
theorem ZK(hT:aW η T tmps)(hG:ch η ty.g)(hH:bk W η H n w){t:TypeId}{x:Operand}{a:A}(hc:dZ ty (.box t x)=some a)(hs:simple a T H n=some (v,H',n')):
 fw P W η H n w (do pure (.value (←Instr.box t (ai tmps x)))) v H' n':=by
 simp only[dZ]at hc;split at hc
 ·rename_i x' hx;injection hc with hc;subst hc;simp only[simple]at hs;split at hs
  ·rename_i u hu;cases jc:bE u.cells with
   | false=>rw[jc]at hs;cases hs
   | true=>
    rw[jc]at hs;obtain⟨rfl,rfl,rfl⟩:=pv hs;have hr:=cw hT hG hx hu;obtain⟨yX,_⟩:=hr.cells jc;obtain⟨η',h1,h2⟩:=G8 hH t yX [];refine gz (ψ (ψ (ψ (wG (aa (aa (aa ⟨η',?_,?_⟩)))))))
    ·simpa using h1
    ·exact al.p (η:=η') n 0 _ h2
  ·cases hs
 ·cases hc
theorem Kd(hT:aW η T tmps)(hG:ch η ty.g){off:Nat->Option (Nat×Nat)}{place:Nat->Option (Nat×Nat)}(hp:∀i o s,off i=some (o,s)->place i=some (o,s))
 {ps:List (Nat×Operand)}{as:List (Nat×Nat×ax)}{zs r:List V}{cs:Array Value}(hc:zK ty off ps=some as)(hs:rn T zs as=some r)(hz:bc η zs cs.toList):
 ∃yY,Instr.fill place cs (ps.map λp=>(p.1,ai tmps p.2))=some yY/\bc η r yY.toList:=by
 induction ps generalizing as zs cs with
 | nil=>
  simp only[zK]at hc;injection hc with hc;subst hc;simp only[rn]at hs;injection hs with hs;subst hs;exact⟨cs,rfl,hz⟩
 | cons p ps ih=>
  obtain⟨i,x⟩:=p;simp only[zK]at hc;split at hc
  ·rename_i o s x' F6 ho hx has;injection hc with hc;subst hc;simp only[rn]at hs;split at hs
   ·rename_i u hu;cases hb:(Nat.beq u.cells.length s&&bE u.cells) with
    | false=>rw[hb]at hs;cases hs
    | true=>
     rw[hb]at hs;simp only[cond_true]at hs;rw[bh]at hb;split at hs
     ·rename_i I7 X1;have hr:=cw hT hG hx hu;obtain⟨yX,_⟩:=hr.cells hb.2;have hlen:(ai tmps x).cells.size=s:=by
       have h1:=yX.length;have h2:u.cells.length=s:=cL hb.1;simp at h1;omega
      obtain⟨g1,g2,g3⟩:=J3 X1;have eF:cs.size=zs.length:=by rw[hz.length];simp
      have key:∀(l:List Value) (k:Nat) (c:Array Value),(l.zipIdx k).foldl (λcs (y,j)=>cs.setIfInBounds (o+j) y) c=mG c (o+k) l:=by
       intro l
       induction l with
       | nil=>intro k c;rfl
       | cons y l kR=>intro k c;simp only[List.zipIdx_cons,List.foldl_cons,mG];rw[kR];rfl
      have ZL:(ai tmps x).cells.zipIdx.foldl (λcs (y,j)=>cs.setIfInBounds (o+j) y) cs=mG cs o (ai tmps x).cells.toList:=by rw[←Array.foldl_toList,Array.toList_zipIdx];exact key _ 0 cs
      have ZM:bc η I7 (mG cs o (ai tmps x).cells.toList).toList:=by
       refine bc.G3 (by rw[g1];simp[G4,eF]) λj v hj=>?_;rw[nE,G5 _ _ _ (by rw[←yX.length];omega)];rw[g3]at hj;by_cases qg:o<=j/\j<o+u.cells.length
       ·rw[au qg]at hj;rw[au (by rw[←yX.length];omega)];exact yX.get hj
       ·rw[Ξ qg]at hj;rw[Ξ (by rw[←yX.length];omega)];have:=hz.get hj;rwa [nE]at this
      obtain⟨yY,h1,h2⟩:=ih has hs ZM;refine⟨yY,?_,h2⟩;simp only[lP,Instr.fill,hp i o s ho,hlen];rw[Ξ (by
       have:u.cells.length=s:=cL hb.1;simp;omega)]
      rw[ZL];exact h1
     ·cases hs
   ·cases hs
  ·cases hc
theorem Pv{l:Array Field}{fs:List (Nat×Nat)}(wJ:fs=l.toList.map (λf=>(f.type,f.offset))){i o s:Nat}(h:GW ty fs i=some (o,s)):
 ∃f j,l[i]?=some f/\f.offset=o/\ty f.type=some j/\j.size=s:=by
 unfold GW at h;rw[pr,wJ,List.getElem?_map]at h;cases e:l[i]? with
 | none=>rw[nE,e]at h;cases h
 | some f=>
  rw[nE,e]at h;simp only[rk]at h;split at h
  ·rename_i j hj;injection h with h;injection h with h1 h2;exact⟨f,j,rfl,h1,hj,h2⟩
  ·cases h
theorem ZN{α β:Type}{f:α->Sem β}{g:α->β}(l:List α)(h:∀a∈l,∀w',aZ P (f a) w' λb xp=>b=g a/\xp=w'):
 ∀w,aZ P (l.mapM f) w λr w'=>r=l.map g/\w'=w:=by
 induction l with
 | nil=>intro w;exact aa ⟨rfl,rfl⟩
 | cons a l ih=>
  intro w;rw[List.mapM_cons];refine ψ ((h a (by simp) w).mono ?_);rintro b w' ⟨rfl,rfl⟩;refine ψ ((ih (λx hx=>h x (by simp[hx])) w').mono ?_);rintro r xp ⟨rfl,rfl⟩;exact aa ⟨rfl,rfl⟩
theorem ZO{α β:Type}{f:α->Sem β}{g:α->β}(l:Array α)(h:∀a∈l.toList,∀w',aZ P (f a) w' λb xp=>b=g a/\xp=w'):
 ∀w,aZ P (l.mapM f) w λr w'=>r=l.map g/\w'=w:=by
 intro w;obtain⟨r,w',h1,rfl,rfl⟩:=ZN (P:=P) (g:=g) l.toList h w;refine⟨(l.toList.map g).toArray,w',?_,jP (by simp),rfl⟩;rw[Array.mapM_eq_mapM_toList];show(Sem.bind (l.toList.mapM f) _).run P w'=_;rw[Sem.run_bind',h1];rfl
theorem BP(z:List V)(k:Nat):(iw z k).length=k*z.length:=by
 induction k with
 | zero=>simp[iw]
 | succ k ih=>simp[iw,ih,xS,rm]
theorem G9{z:List V}{zc:Array Value}(h:bc η z zc.toList)(k m:Nat)(hm:m=k*zc.size):bc η (iw z k) ((Array.range m).map (zc[· % zc.size]!)).toList:=by
 have hz:z.length=zc.size:=by rw[h.length];simp
 refine bc.G3 (by rw[BP];simp[hm,hz]) λi v hi=>?_;subst hm;have ω:i<k*zc.size:=by have:=(oj.1 hi).1;rw[BP,hz]at this;exact this
 have uA:0<zc.size:=xJ λe=>by rw[e]at ω;simp at ω
 have BQ:z[i % z.length]?=some v:=by
  clear h
  induction k generalizing i with
  | zero=>simp at ω
  | succ k ih=>
   simp only[iw]at hi;by_cases h1:i<z.length
   ·rw[wu h1]at hi;rw[zC h1];exact hi
   ·rw[zw (by omega)]at hi;have:=ih (i - z.length) hi (by rw[xS]at ω;omega);rw[Nat.mod_eq_sub_mod (by omega)];exact this
 rw[hz]at BQ;obtain⟨y,hy,hv⟩:=h.get BQ;refine⟨y,?_,hv⟩;rw[nE]at hy ⊢;simp only[Array.getElem?_map,Array.getElem?_range];rw[au ω];simp only[rk];rw[getElem!_pos zc _ (lS _ uA)];rw[nz (lS _ uA)]at hy;exact hy
theorem ZP(aI:dI P ty)(hT:aW η T tmps)(hG:ch η ty.g)(hH:bk W η H n w){t:TypeId}{ps:Array (Nat×Operand)}{a:A}(hc:dZ ty (.build t ps)=some a)
 (hs:simple a T H n=some (v,H',n')):fw P W η H n w (do pure (.value (←Instr.build t (ps.map λ(i,x)=>(i,ai tmps x))))) v H' n':=by
 simp only[dZ]at hc;split at hc
 case h_2=>cases hc
 rename_i i hi;have DU:=aI.ok _ _ hi;have Oc:(ps.map λ(i,x)=>(i,ai tmps x)).toList=ps.toList.map λp=>(p.1,ai tmps p.2):=by simp
 split at hc
 ·rename_i fs plain hd;split at hc
  ·rename_i l hl;injection hc with hc;subst hc;simp only[simple]at hs;split at hs
   ·rename_i r hr;injection hs with hs;injection hs with e1 e2;injection e2 with e2 e3;subst e1;subst e2;subst e3;have dw:=DU.desc;rw[hd]at dw;obtain⟨sf,hu,wJ,jc,_⟩:=dw;refine gz (ψ (sP DU λz hz _ _ _=>?_));refine ψ (br hu ?_);refine ψ ((ZO (g:=λf:Field=>(f.offset,((P.info? f.type).map (·.size)).getD 0)) sf (λf hf w'=>?_) w).mono ?_)
    ·obtain⟨ti,Pw⟩:=jc f hf;refine ψ (ψ (yf Pw (aa (aa ⟨?_,rfl⟩))));simp[Pw]
    ·rintro r' w' ⟨rfl,rfl⟩;obtain⟨yY,h1,h2⟩:=Kd (place:=λk=>(sf.map (λf:Field=>(f.offset,((P.info? f.type).map (·.size)).getD 0)))[k]?) hT hG (λk o sz h=>by
      obtain⟨f,j,g1,g2,g3,g4⟩:=Pv wJ h;obtain⟨ti,z',q1,q2,_⟩:=(aI.ok _ _ g3).info;simp[g1,q1,g2,q2,g4]) hl hr (hz η)
     rw[Oc,h1];exact aa ⟨η,.refl hH,.a _ _ h2⟩
   ·cases hs
  ·cases hc
 ·rename_i m e hd;split at hc
  ·rename_i j hj;split at hc
   ·rename_i l hl;injection hc with hc;subst hc;simp only[simple]at hs;split at hs
    ·rename_i r hr;injection hs with hs;injection hs with e1 e2;injection e2 with e2 e3;subst e1;subst e2;subst e3;have dw:=DU.desc;rw[hd]at dw;refine gz (ψ (sP DU λz hz _ _ _=>?_));refine ψ (br dw ?_);refine ψ (mH (aI.ok _ _ hj) ?_);obtain⟨yY,h1,h2⟩:=Kd (place:=λi=>some (i*j.size,j.size)) hT hG (λ_ _ _ h=>h) hl hr (hz η);rw[Oc,h1];exact aa ⟨η,.refl hH,.a _ _ h2⟩
    ·cases hs
   ·cases hc
  ·cases hc
 ·cases hc
end ops
end
section
section ops
variable {P:Program}{ty:Ty}{W:Nat->Code->AC->Prop}{η:Env}{T:Tr V}{H H':Hp}{n n':K}{w:World}{tmps:Array Value}{v:V}
theorem Px(hT:aW η T tmps)(hG:ch η ty.g)(hH:bk W η H n w){x:Operand}{a:ax}(hx:bK ty x=some a)(hs:simple (.mv a) T H n=some (v,H',n')):
 fw P W η H n w (pure (.value (ai tmps x))) v H' n':=by
 obtain⟨h1,rfl,rfl⟩:=lf hs;exact Oa hH (cw hT hG hx h1)
theorem ZQ(hT:aW η T tmps)(hG:ch η ty.g)(hH:bk W η H n w){x y z:Operand}{a:A}(hc:dZ ty (.pick x y z)=some a)(hs:simple a T H n=some (v,H',n')):
 fw P W η H n w (do pure (.value (if←asBool (ai tmps x) then ai tmps y else ai tmps z))) v H' n':=by
 simp only[dZ]at hc;split at hc
 ·rename_i x' y' z' hx hy hz;injection hc with hc;subst hc;simp only[simple]at hs;split at hs
  ·rename_i b hb;obtain⟨h1,rfl,rfl⟩:=lf hs;have hr:=cw hT hG hx hb;generalize ai tmps x=q at hr;cases hr;refine ψ (aa ?_);refine aa ⟨η,.refl hH,.inl ⟨_,rfl,?_⟩⟩;cases b with
   | true=>exact cw hT hG hy h1
   | false=>exact cw hT hG hz h1
  ·cases hs
 ·cases hc
theorem ZR(aI:dI P ty)(hT:aW η T tmps)(hG:ch η ty.g)(hH:bk W η H n w){t:TypeId}{len:Nat}{ps:Array (Nat×Operand)}{a:A}
 (hc:dZ ty (.buildSlice t len ps)=some a)(hs:simple a T H n=some (v,H',n')):
 fw P W η H n w (do pure (.value (←Instr.buildSlice t len (ps.map λ(i,x)=>(i,ai tmps x))))) v H' n':=by
 simp only[dZ]at hc;split at hc
 case h_2=>cases hc
 rename_i i hi;have Oc:(ps.map λ(i,x)=>(i,ai tmps x)).toList=ps.toList.map λp=>(p.1,ai tmps p.2):=by simp
 split at hc
 ·rename_i e hd;split at hc
  ·rename_i j hj;cases hb:Nat.ble (len*j.size) 16777216 with
   | false=>rw[hb]at hc;cases hc
   | true=>
    rw[hb]at hc;simp only[cond_true]at hc;split at hc
    ·rename_i l hl;injection hc with hc;subst hc;simp only[simple]at hs;split at hs
     ·rename_i r hr;obtain⟨rfl,rfl,rfl⟩:=pv hs;have dw:=(aI.ok _ _ hi).desc;rw[hd]at dw;refine gz (ψ (br dw ?_));refine ψ (mH (aI.ok _ _ hj) ?_);have hle:¬ len*j.size>2 ^ 24:=by have:=nD hb;omega
      simp only[hle,if_false];have jR:∀z:Array Value,(∀η,bc η (iw j.zero len) ((Array.range (len*j.size)).map (z[· % z.size]!)).toList)->aZ P (do
       let some cells:=Instr.fill (λi=>some (i*j.size,j.size)) ((Array.range (len*j.size)).map (z[· % z.size]!)) (ps.map λ(i,x)=>(i,ai tmps x)).toList
        | stuck "buildSlice: a part of the wrong size"
       pure (.slice (some (←newRow e cells)) len len)) w λy w'=>∃η',Trans W η H n w η' (H.put (some (.c r e 0)) n) n.succ w'/\al η' (.sl n 0 len len) y:=by
       intro z hz;obtain⟨yY,h1,h2⟩:=Kd (place:=λi=>some (i*j.size,j.size)) hT hG (λ_ _ _ h=>h) hl hr (hz η);rw[Oc,h1];obtain⟨η',g1,g2⟩:=G8 hH e h2 [];refine ψ (ψ (wG (aa (aa ⟨η',?_,?_⟩))))
       ·simpa using g1
       ·exact al.sl (η:=η') n 0 len len _ g2
      by_cases h0:len*j.size=0
      ·rw[au h0];exact ψ (aa (jR #[] (λη=>by
        obtain⟨ti,z,_,_,_,_,_,_,_,q,_⟩:=(aI.ok _ _ hj).info;have:iw j.zero len=[]:=by rw[←xG,BP,q,h0]
        rw[this,h0];have e0:Array.range 0=#[]:=rfl;rw[e0,Array.map_empty];exact .nil)))
      ·rw[Ξ h0];refine ψ (sP (aI.ok _ _ hj) λz hz _ _ eF=>ψ (aa ?_));exact jR z.cells (λη=>G9 (hz η) len _ (by rw[eF]))
     ·cases hs
    ·cases hc
  ·cases hc
 ·cases hc
theorem ZS(hT:aW η T tmps)(hG:ch η ty.g)(hH:bk W η H n w){x:Operand}{a:A}(hc:dZ ty (.nilCheck x)=some a)(hs:simple a T H n=some (v,H',n'))(o:Oper)(ho:o.op=.nilCheck x):
 fw P W η H n w (execOp (ai tmps) o) v H' n':=by
 simp only[dZ]at hc;split at hc
 ·rename_i x' hx;injection hc with hc;subst hc;unfold execOp;simp only[ho];simp only[simple]at hs;split at hs
  ·rename_i b o' hb;injection hs with hs;injection hs with e1 e2;injection e2 with e2 e3;subst e1;subst e2;subst e3;have hr:=cw hT hG hx hb;generalize ai tmps x=q at hr;cases hr with
   | p _ _ L hL=>exact Oa hH (.p _ _ L hL)
  ·rename_i g a c hb;injection hs with hs;injection hs with e1 e2;injection e2 with e2 e3;subst e1;subst e2;subst e3;have hr:=cw hT hG hx hb;generalize ai tmps x=q at hr;cases hr with
   | f _ _ _ _ _ h1 h2=>exact Oa hH (.f _ _ _ _ _ h1 h2)
  ·rename_i l hb;injection hs with hs;injection hs with e1 e2;injection e2 with e2 e3;subst e1;subst e2;subst e3;have hr:=cw hT hG hx hb;generalize ai tmps x=q at hr;cases hr with
   | y _ L hL=>exact Oa hH (.y _ L hL)
  ·cases hs
 ·cases hc
theorem Py{t:TypeId}{d:TD}(h:J6 P t d)(h1:d≠.other)(h2:d≠.iface):∃u,P.underlying t=some u/\∀ms,u≠.interface ms:=by
 cases d with
 | other=>exact absurd rfl h1
 | iface=>exact absurd rfl h2
 | ru fs plain=>obtain⟨l,a,_⟩:=h;exact⟨_,a,λ_ e=>by cases e⟩
 | func=>obtain⟨_,_,_,a⟩:=h;exact⟨_,a,λ_ e=>by cases e⟩
 | bool=>exact⟨_,h,λ_ e=>by cases e⟩
 | int _=>exact⟨_,h,λ_ e=>by cases e⟩
 | str=>exact⟨_,h,λ_ e=>by cases e⟩
 | ptr _=>exact⟨_,h,λ_ e=>by cases e⟩
 | BL=>exact⟨_,h,λ_ e=>by cases e⟩
 | slice _=>exact⟨_,h,λ_ e=>by cases e⟩
 | arr _ _=>exact⟨_,h,λ_ e=>by cases e⟩
 | map _ _=>exact⟨_,h,λ_ e=>by cases e⟩
theorem ZT(aI:dI P ty)(hT:aW η T tmps)(hG:ch η ty.g)(hH:bk W η H n w){t:TypeId}{x:Operand}{a:A}(hc:dZ ty (.makeInterface t x)=some a)
 (hs:simple a T H n=some (v,H',n')):fw P W η H n w (do pure (.value (←Instr.makeInterface t (ai tmps x)))) v H' n':=by
 simp only[dZ]at hc;split at hc
 ·rename_i i x' hi hx;have hd:=(aI.ok _ _ hi).desc;have aR:a=.mif t x'/\i.desc≠.other/\i.desc≠.iface:=by
   split at hc
   ·cases hc
   ·cases hc
   ·rename_i h1 h2;injection hc with hc;exact⟨hc.symm,h2,h1⟩
  obtain⟨rfl,h1,h2⟩:=aR;obtain⟨u,hu,Ke⟩:=Py hd h1 h2;simp only[simple]at hs;split at hs
  ·rename_i y hy;injection hs with hs;injection hs with e1 e2;injection e2 with e2 e3;subst e1;subst e2;subst e3;refine gz (ψ (br hu ?_));have hr:=cw hT hG hx hy;cases u<;>first | exact absurd rfl (Ke _) | exact aa ⟨η,.refl hH,.kY _ _ _ hr⟩
  ·cases hs
 ·cases hc
theorem ZU(hT:aW η T tmps)(hG:ch η ty.g)(hH:bk W η H n w){fn:Fn}{f c:Array Operand}{a:A}(hc:dZ ty (.makeFunc fn f c)=some a)
 (hs:simple a T H n=some (v,H',n')):fw P W η H n w (do pure (.value (←Instr.makeFunc fn (f.map (ai tmps)) (c.map (ai tmps))))) v H' n':=by
 simp only[dZ]at hc;split at hc
 ·rename_i g;split at hc
  ·rename_i f' c' hf tL;injection hc with hc;subst hc;simp only[simple]at hs;split at hs
   ·rename_i a1 a2 h1 h2;injection hs with hs;injection hs with e1 e2;injection e2 with e2 e3;subst e1;subst e2;subst e3;refine gz (aa ⟨η,.refl hH,?_⟩);have r1:=BO hT hG hf h1;have r2:=BO hT hG tL h2;have e1:f.map (ai tmps)=⟨f.toList.map (ai tmps)⟩:=by apply jP;simp
    have e2:c.map (ai tmps)=⟨c.toList.map (ai tmps)⟩:=by apply jP;simp
    rw[e1,e2];exact .f _ _ _ _ _ r1 r2
   ·cases hs
  ·cases hc
 ·cases hc
theorem ZV(aI:dI P ty)(hH:bk W η H n w){t:TypeId}{r:Option Operand}{a:A}(hc:dZ ty (.makeMap t r)=some a)
 (hs:simple a T H n=some (v,H',n')):fw P W η H n w (do pure (.value (←Instr.makeMap t (r.map (ai tmps))))) v H' n':=by
 simp only[dZ]at hc;split at hc
 case h_2=>cases hc
 rename_i i hi;have hd:=(aI.ok _ _ hi).desc;have key:a=.mmap->aZ P (do pure (.map (some (←newObj (.map #[] 0)))):Sem Value) w λy w'=>∃η',Trans W η H n w η' H' n' w'/\al η' v y:=by rintro rfl;obtain⟨rfl,rfl,rfl⟩:=pv hs;obtain⟨η',h1,h2⟩:=Trans.new (room:=0) (o:=.mp [] 0) (ob:=.map #[] 0) hH (λη' hle=>⟨#[],rfl,trivial⟩);exact ψ (wG (aa ⟨η',h1,al.m (η:=η') n _ h2⟩))
 split at hc
 ·injection hc with hc;exact gz (key hc.symm)
 ·rename_i k e kk nn CZ;injection hc with hc;rw[CZ]at hd;refine gz ?_;unfold Instr.makeMap;exact ψ (br hd (ψ (ψ (aa (aa (key hc.symm))))))
 ·cases hc
end ops
end
section
theorem wrap_i64{n:Int}(h0:0<=n)(h1:n<=9223372036854775807):IntKind.i64.wrap n=n:=by unfold IntKind.wrap;have hm:n % (2 ^ IntKind.i64.bits:Int)=n:=Int.emod_eq_of_lt h0 (by have:(2:Int) ^ IntKind.i64.bits=18446744073709551616:=rfl;omega);simp only[hm];rw[Ξ];intro h;rw[bh,bA]at h;have:(2:Int) ^ (IntKind.i64.bits - 1)=9223372036854775808:=rfl;omega
section ops
variable {P:Program}{ty:Ty}{W:Nat->Code->AC->Prop}{η:Env}{T:Tr V}{H H':Hp}{n n':K}{w:World}{tmps:Array Value}{v:V}
theorem ea{a:V}{b:Hp}{c:K}(h:(some (a,b,c):gm)=some (v,H',n')):v=a/\H'=b/\n'=c:=by injection h with h;injection h with h1 h2;injection h2 with h2 h3;exact⟨h1.symm,h2.symm,h3.symm⟩
theorem ZW(aI:dI P ty)(hT:aW η T tmps)(hG:ch η ty.g)(hH:bk W η H n w){t:TypeId}{x:Operand}{f:Nat}{a:A}(hc:dZ ty (.fieldAddr t x f)=some a)
 (hs:simple a T H n=some (v,H',n')):fw P W η H n w (do pure (.value (←Instr.fieldAt t (ai tmps x) f))) v H' n':=by
 simp only[dZ]at hc;split at hc
 case h_2=>cases hc
 rename_i i x' hi hx;split at hc
 case h_2=>cases hc
 rename_i fs plain hd;have dw:=(aI.ok _ _ hi).desc;rw[hd]at dw;obtain⟨sf,hu,wJ,_⟩:=dw;split at hc
 case h_2=>cases hc
 rename_i o sz hf;cases hb:Nat.beq sz 0 with
 | true=>rw[hb]at hc;cases hc
 | false=>
  rw[hb]at hc;simp only[cond_false]at hc;injection hc with hc;subst hc;obtain⟨fd,j,g1,g2,g3,g4⟩:=Pv wJ hf;simp only[simple]at hs;split at hs
  ·rename_i b o' ku;obtain⟨rfl,rfl,rfl⟩:=ea hs;have hr:=cw hT hG hx ku;generalize ai tmps x=q at hr;cases hr with
   | p _ _ L hL=>
    refine gz (ψ (br hu ?_));simp only[g1];refine ψ (aa ?_);refine ψ (ψ (mH (aI.ok _ _ g3) ?_));have aR:¬ j.size=0:=by intro e;rw[g4]at e;rw[e]at hb;cases hb
    simp only[aR,if_false];refine aa (aa ⟨η,.refl hH,?_⟩);rw[sO,g2];have:=al.p (η:=η) b (o'+o) L hL;rw[show L.off+o'+o=L.off+(o'+o) by omega];exact this
  ·cases hs
theorem Kf{t:TypeId}{i:TI}(hi:wH P t i){l:List V}{cs:Array Value}(hl:bc η l cs.toList){o:Nat}{v:V}
 (h:(bif i.desc.agg then (match db l o i.size with | some l'=>some (V.a l') | none=>none) else nth l o)=some v):
 aZ P (part t cs o) w λy w'=>al η v y/\w'=w:=by
 refine ψ (Ps hi ?_);cases hg:i.desc.agg with
 | true=>
  rw[hg]at h;simp only[cond_true]at h;split at h
  ·rename_i r hr;injection h with h;subst h;obtain⟨rfl,hn⟩:=ow hr;simp only[if_true];refine ψ (mH hi (aa ⟨?_,rfl⟩));have:cs.extract o (o+i.size)=⟨(cs.toList.drop o).take i.size⟩:=by
    apply jP;simp
   rw[this];exact .a _ _ (hl.sub o i.size)
  ·cases h
 | false=>
  rw[hg]at h;simp only[cond_false]at h;rw[pr]at h;obtain⟨y,hy,hv⟩:=hl.get h;rw[nE]at hy;simp only[mC,if_false,hy];exact aa ⟨hv,rfl⟩
theorem ZX(aI:dI P ty)(hT:aW η T tmps)(hG:ch η ty.g)(hH:bk W η H n w){t:TypeId}{x:Operand}{f:Nat}{a:A}(hc:dZ ty (.field t x f)=some a)
 (hs:simple a T H n=some (v,H',n')):fw P W η H n w (do pure (.value (←Instr.field t (ai tmps x) f))) v H' n':=by
 simp only[dZ]at hc;split at hc
 case h_2=>cases hc
 rename_i i x' hi hx;split at hc
 case h_2=>cases hc
 rename_i fs plain hd;have dw:=(aI.ok _ _ hi).desc;rw[hd]at dw;obtain⟨sf,hu,wJ,_⟩:=dw;split at hc
 case h_2=>cases hc
 rename_i ft o hf;split at hc
 case h_2=>cases hc
 rename_i j hj;injection hc with hc;subst hc;rw[pr,wJ,List.getElem?_map,nE]at hf;cases e:sf[f]? with
 | none=>rw[e]at hf;cases hf
 | some fd=>
  rw[e]at hf;simp only[rk]at hf;injection hf with hf;injection hf with e1 e2;simp only[simple]at hs;split at hs
  ·rename_i l hl;have hr:=cw hT hG hx hl;generalize ai tmps x=q at hr;cases hr with
   | a _ l' hr=>
    refine gz (ψ (br hu ?_));simp only[e];refine ψ (aa ?_);rw[e1,e2];have hp:(bif j.desc.agg then (match db l o j.size with | some l'=>some (V.a l') | none=>none) else nth l o)=some v/\H'=H/\n'=n:=by
     cases hg:j.desc.agg with
     | true=>
      rw[hg]at hs;simp only[cond_true]at hs ⊢;split at hs
      ·rename_i r hr;obtain⟨rfl,rfl,rfl⟩:=ea hs;simp only[hr,and_self]
      ·cases hs
     | false=>
      rw[hg]at hs;simp only[cond_false]at hs ⊢;exact lf hs
    obtain⟨hp,rfl,rfl⟩:=hp;exact(Kf (aI.ok _ _ hj) (cs:=⟨l'⟩) hr hp).mono λy w' ⟨h1,h2⟩=>⟨η,by subst h2;exact .refl hH,h1⟩
  ·cases hs
theorem ZY(aI:dI P ty)(hT:aW η T tmps)(hG:ch η ty.g)(hH:bk W η H n w){t:TypeId}{x ix:Operand}{a:A}(hc:dZ ty (.indexAddr t x ix)=some a)
 (hs:simple a T H n=some (v,H',n')):fw P W η H n w (do pure (.value (←Instr.indexAt t (ai tmps x) (ai tmps ix)))) v H' n':=by
 simp only[dZ]at hc;split at hc
 case h_2=>cases hc
 rename_i i x' Jb hi hx Kg;have dw:=(aI.ok _ _ hi).desc;split at hc
 ·rename_i m e hd;rw[hd]at dw;split at hc
  case h_2=>cases hc
  rename_i j hj;injection hc with hc;subst hc;simp only[simple]at hs;split at hs
  case h_2=>cases hs
  rename_i x1 k1 i1 h1 h2;have eG:=cw hT hG hx h1;have fE:=cw hT hG Kg h2;generalize ai tmps x=q1 at eG;generalize ai tmps ix=q2 at fE;cases fE with
  | i _ _=>
   split at hs
   case h_2 heq=>cases heq
   case h_3 heq=>cases heq
   case h_4=>cases hs
   rename_i m' b o heq;injection heq with heq;subst heq;cases hb:Nat.blt i1 m with
   | false=>rw[hb]at hs;cases hs
   | true=>
    rw[hb]at hs;obtain⟨rfl,rfl,rfl⟩:=ea hs;have ω:i1<m:=by have:i1+1<=m:=nD hb;omega
    cases eG with
    | p _ _ L hL=>
     refine gz (ψ (aa (ψ (br dw ?_))));refine ψ (aa ?_);refine ψ (aa ?_);refine ψ (br dw ?_);have:(0:Int)<=Int.ofNat i1/\Int.ofNat i1<(m:Int):=⟨sE _,Int.ofNat_lt.2 ω⟩;simp only[this,and_self,if_true];refine ψ (mH (aI.ok _ _ hj) (aa ⟨η,.refl hH,?_⟩));rw[sO];have:=al.p (η:=η) b (o+i1*j.size) L hL;show al η _ (.pointer (some ⟨L.blk,L.off+o+i1*j.size,none⟩));rw[show L.off+o+i1*j.size=L.off+(o+i1*j.size) by omega];exact this
 ·rename_i e hd;rw[hd]at dw;split at hc
  case h_2=>cases hc
  rename_i j hj;injection hc with hc;subst hc;simp only[simple]at hs;split at hs
  case h_2=>cases hs
  rename_i x1 k1 i1 h1 h2;have eG:=cw hT hG hx h1;have fE:=cw hT hG Kg h2;generalize ai tmps x=q1 at eG;generalize ai tmps ix=q2 at fE;cases fE with
  | i _ _=>
   have main:∀(b:K) (o l c:Nat) (L:Loc),η b=some L->q1=.slice (some ⟨L.blk,L.off+o,none⟩) l c->Nat.blt i1 l=true->some (V.p b (Nat.add o (Nat.mul i1 j.size)),H,n)=some (v,H',n')->fw P W η H n w (do pure (.value (←Instr.indexAt t q1 (.int k1 (Int.ofNat i1))))) v H' n':=by
    rintro b o l c L hL rfl hb hs;obtain⟨rfl,rfl,rfl⟩:=ea hs;have ω:i1<l:=by have:i1+1<=l:=nD hb;omega
    refine gz (ψ (aa (ψ (br dw ?_))));refine ψ (aa ?_);refine ψ (br dw ?_);have:(0:Int)<=Int.ofNat i1/\Int.ofNat i1<(l:Int):=⟨sE _,Int.ofNat_lt.2 ω⟩;simp only[this,and_self,if_true];refine ψ (mH (aI.ok _ _ hj) (aa ⟨η,.refl hH,?_⟩));rw[sO];have:=al.p (η:=η) b (o+i1*j.size) L hL;show al η _ (.pointer (some ⟨L.blk,L.off+o+i1*j.size,none⟩));rw[show L.off+o+i1*j.size=L.off+(o+i1*j.size) by omega];exact this
   split at hs
   case h_1 heq=>cases heq
   case h_4=>cases hs
   ·rename_i b o l c heq;cases eG with
    | sl _ _ _ _ L hL=>
     cases hb:Nat.blt i1 l with
     | false=>rw[hb]at hs;cases hs
     | true=>rw[hb]at hs;exact main b o l c L hL rfl hb hs
   ·rename_i b o l c heq;cases hb:Nat.blt i1 l with
    | false=>rw[hb]at hs;cases hs
    | true=>
     rw[hb]at hs;cases eG with
     | su _ _ _ _ L c' hL h1 h2=>exact main b o l c' L hL rfl hb hs
     | se=>cases hb
 ·cases hc
end ops
end
section
section ops
variable {P:Program}{ty:Ty}{W:Nat->Code->AC->Prop}{η:Env}{T:Tr V}{H H':Hp}{n n':K}{w:World}{tmps:Array Value}{v:V}
theorem ZZ{l m i:Nat}(h:i<l):(strOf l m)[i]?=some (UInt8.ofNat (m / 256 ^ i % 256)):=by
 have:=Pk l m i h;show(strOf l m)[i]?=_;have hs:i<(strOf l m).size:=by rw[uz];exact h
 rw[getElem?_pos (strOf l m) i hs];have e:(strOf l m)[i]=(bU l m).toArray[i]'(by simpa[rz]using h):=rfl;rw[e];rw[fO (by rw[rz];exact h)]at this;simpa using this
theorem Z0(aI:dI P ty)(hT:aW η T tmps)(hG:ch η ty.g)(hH:bk W η H n w){t:TypeId}{x ix:Operand}{a:A}(hc:dZ ty (.index t x ix)=some a)
 (hs:simple a T H n=some (v,H',n')):fw P W η H n w (do pure (.value (←Instr.index t (ai tmps x) (ai tmps ix)))) v H' n':=by
 simp only[dZ]at hc;split at hc
 case h_2=>cases hc
 rename_i i x' Jb hi hx Kg;have dw:=(aI.ok _ _ hi).desc;split at hc
 ·rename_i hd;rw[hd]at dw;injection hc with hc;subst hc;simp only[simple]at hs;split at hs
  case h_2=>cases hs
  rename_i x1 k1 i1 h1 h2;have eG:=cw hT hG hx h1;have fE:=cw hT hG Kg h2;generalize ai tmps x=q1 at eG;generalize ai tmps ix=q2 at fE;cases fE with
  | i _ _=>
   split at hs
   case h_2 heq=>cases heq
   case h_3=>cases hs
   rename_i l m _;cases eG with
   | s _ _ hm=>
    cases hb:Nat.blt i1 l with
    | false=>rw[hb]at hs;cases hs
    | true=>
     rw[hb]at hs;obtain⟨rfl,rfl,rfl⟩:=ea hs;have ω:i1<l:=by have:i1+1<=l:=nD hb;omega
     refine gz (ψ (aa ?_));refine ψ (br dw ?_);have h0:(0:Int)<=Int.ofNat i1:=sE _;simp only[h0,if_true];rw[show(Int.ofNat i1).toNat=i1 from rfl,ZZ ω];refine aa ⟨η,.refl hH,?_⟩;have:((UInt8.ofNat (m / 256 ^ i1 % 256)).toNat:Int)=Int.ofNat (I6 m i1):=by have e1:I6 m i1=m / 256 ^ i1 % 256:=rfl;rw[e1];simp
     rw[this];exact .i _ _
 ·rename_i m e hd;rw[hd]at dw;split at hc
  case h_2=>cases hc
  rename_i j hj;injection hc with hc;subst hc;simp only[simple]at hs;split at hs
  case h_2=>cases hs
  rename_i x1 k1 i1 h1 h2;have eG:=cw hT hG hx h1;have fE:=cw hT hG Kg h2;generalize ai tmps x=q1 at eG;generalize ai tmps ix=q2 at fE;cases fE with
  | i _ _=>
   split at hs
   case h_1 heq=>cases heq
   case h_3=>cases hs
   rename_i m' z agg l heq;injection heq with heq;injection heq with e1 e2;injection e2 with e2 e3;subst e1;subst e2;subst e3;cases eG with
   | a _ l' hr=>
    cases hb:Nat.blt i1 m with
    | false=>rw[hb]at hs;cases hs
    | true=>
     rw[hb]at hs;simp only[cond_true]at hs;have ω:i1<m:=by have:i1+1<=m:=nD hb;omega
     have hp:(bif j.desc.agg then (match db l (Nat.mul i1 j.size) j.size with | some l'=>some (V.a l') | none=>none) else nth l (Nat.mul i1 j.size))=some v/\H'=H/\n'=n:=by
      cases hg:j.desc.agg with
      | true=>
       rw[hg]at hs;simp only[cond_true]at hs ⊢;split at hs
       ·rename_i r hr;obtain⟨rfl,rfl,rfl⟩:=ea hs;simp only[hr,and_self]
       ·cases hs
      | false=>
       rw[hg]at hs;simp only[cond_false]at hs ⊢;exact lf hs
     obtain⟨hp,rfl,rfl⟩:=hp;refine gz (ψ (aa ?_));refine ψ (br dw ?_);have:(0:Int)<=Int.ofNat i1/\Int.ofNat i1<(m:Int):=⟨sE _,Int.ofNat_lt.2 ω⟩;simp only[this,and_self,if_true];refine ψ (mH (aI.ok _ _ hj) ?_);exact(Kf (aI.ok _ _ hj) (cs:=⟨l'⟩) hr hp).mono λy w' ⟨h1,h2⟩=>⟨η,by subst h2;exact .refl hH,h1⟩
 ·cases hc
theorem Z1(hT:aW η T tmps)(hG:ch η ty.g)(hH:bk W η H n w){x:Operand}{i:Nat}{a:A}(hc:dZ ty (.extract x i)=some a)
 (hs:simple a T H n=some (v,H',n')):fw P W η H n w (do pure (.value (←Instr.extract (ai tmps x) i))) v H' n':=by
 simp only[dZ]at hc;split at hc
 case h_2=>cases hc
 rename_i x' hx;injection hc with hc;subst hc;simp only[simple]at hs;split at hs
 case h_2=>cases hs
 rename_i l hl;obtain⟨h1,rfl,rfl⟩:=lf hs;have hr:=cw hT hG hx hl;generalize ai tmps x=q at hr;cases hr with
 | u _ l' hr=>
  rw[pr]at h1;obtain⟨y,hy,hv⟩:=hr.get h1;refine gz ?_;have:(⟨l'⟩:Array Value)[i]?=some y:=by simpa using hy
  simp only[Instr.extract,this];exact aa ⟨η,.refl hH,hv⟩
theorem Kh{ok:Bool}{z:V}{b:Bool}{y:Value}(h:al η z y):al η (zJ ok z b) (if ok then .tuple #[y,.bool b] else y):=by
 cases ok with
 | true=>exact .u _ _ (.cons _ _ _ _ h (.cons _ _ _ _ (.b b) .nil))
 | false=>exact h
theorem Z2(aI:dI P ty)(hT:aW η T tmps)(hG:ch η ty.g)(hH:bk W η H n w){x:Operand}{xt t:TypeId}{ok:Bool}{a:A}(hc:dZ ty (.typeAssert x xt t ok)=some a)
 (hs:simple a T H n=some (v,H',n')):fw P W η H n w (do pure (.value (←Instr.typeAssert (ai tmps x) xt t ok))) v H' n':=by
 simp only[dZ]at hc;split at hc
 case h_2=>cases hc
 rename_i i x' hi hx;have hd:=(aI.ok _ _ hi).desc;have aR:a=.tas t i.zeroV ok x'/\i.desc≠.other/\i.desc≠.iface:=by
  split at hc
  ·cases hc
  ·cases hc
  ·rename_i h1 h2;injection hc with hc;exact⟨hc.symm,h2,h1⟩
 obtain⟨rfl,g1,g2⟩:=aR;obtain⟨u,hu,Ke⟩:=Py hd g1 g2;have Pz:ok=true->aZ P (do pure (.tuple #[←zeroValue t,.bool false]):Sem Value) w λy w'=>∃η',Trans W η H n w η' H n w'/\al η' (.u [i.zeroV,.b false]) y:=λ_=>
  ψ (sP (aI.ok _ _ hi) λz _ hz _ _=>aa ⟨η,.refl hH,.u _ _ (.cons _ _ _ _ (hz η) (.cons _ _ _ _ (.b _) .nil))⟩)
 simp only[simple]at hs;split at hs
 ·rename_i hy;cases ok with
  | false=>cases hs
  | true=>
   obtain⟨rfl,rfl,rfl⟩:=ea hs;have hr:=cw hT hG hx hy;generalize ai tmps x=q at hr;cases hr;refine gz (ψ (br hu ?_));cases u<;>first | exact absurd rfl (Ke _) | exact Pz rfl
 ·rename_i t' v' hy;have hr:=cw hT hG hx hy;generalize ai tmps x=q at hr;cases hr with
  | kY _ _ y hr=>
   cases hb:Nat.beq t t' with
   | true=>
    rw[hb]at hs;obtain⟨rfl,rfl,rfl⟩:=ea hs;have e:t'=t:=(cL hb).symm;subst e;refine gz (ψ (br hu ?_));cases u<;>first
     | exact absurd rfl (Ke _)
     | (simp only[if_true];exact aa ⟨η,.refl hH,Kh hr⟩)
   | false=>
    rw[hb]at hs;simp only[cond_false]at hs;cases ok with
    | false=>cases hs
    | true=>
     obtain⟨rfl,rfl,rfl⟩:=ea hs;have e:¬ t'=t:=λe=>by subst e;simp[Nat.beq_refl]at hb
     refine gz (ψ (br hu ?_));cases u<;>first
      | exact absurd rfl (Ke _)
      | (simp only[e,if_false];exact Pz rfl)
 ·cases hs
end ops
end
section
theorem Z3{k:IntKind}{n:Int}(h:fits k n=true):k.wrap n=n:=by
 have key:∀(b:Nat) (s:Bool) (B C:Int),(2:Int) ^ b=B->(2:Int) ^ (b - 1)=C->B=2*C->0<C->(s=true -> -C<=n/\n<C)->(s=false->0<=n/\n<B)->(if s&&decide (n % (2 ^ b:Int)>=(2 ^ (b - 1):Int)) then n % (2 ^ b:Int) - (2 ^ b:Int) else n % (2 ^ b:Int))=n:=by
  intro b s B C hB hC hBC uA h1 h2;rw[hB,hC];cases s with
  | false=>
   obtain⟨a,c⟩:=h2 rfl;simp only[wx,mC,if_false];exact Int.emod_eq_of_lt a c
  | true=>
   obtain⟨a,c⟩:=h1 rfl;by_cases hn:0<=n
   ·have:n % B=n:=Int.emod_eq_of_lt hn (by omega);rw[this,Ξ];simp;omega
   ·have:n % B=n+B:=by
     have:=Int.add_emod_right n B;rw[←this];exact Int.emod_eq_of_lt (by omega) (by omega)
    rw[this,au]
    ·omega
    ·simp;omega
 unfold IntKind.wrap;cases k<;>cases n<;>first | (cases h;done) | skip
 all_goals
  rename_i m;have hm:=nD h;have e1:Int.ofNat m=(m:Int):=rfl
 ·exact key 32 true 4294967296 2147483648 rfl rfl rfl (by omega) (λ_=>⟨by omega,by omega⟩) (λe=>by cases e)
 ·exact key 32 true 4294967296 2147483648 rfl rfl rfl (by omega) (λ_=>⟨by omega,by omega⟩) (λe=>by cases e)
 ·exact key 64 true 18446744073709551616 9223372036854775808 rfl rfl rfl (by omega) (λ_=>⟨by omega,by omega⟩) (λe=>by cases e)
 ·exact key 64 true 18446744073709551616 9223372036854775808 rfl rfl rfl (by omega) (λ_=>⟨by omega,by omega⟩) (λe=>by cases e)
 ·exact key 8 false 256 128 rfl rfl rfl (by omega) (λe=>by cases e) (λ_=>⟨by omega,by omega⟩)
 ·exact key 16 false 65536 32768 rfl rfl rfl (by omega) (λe=>by cases e) (λ_=>⟨by omega,by omega⟩)
 ·exact key 32 false 4294967296 2147483648 rfl rfl rfl (by omega) (λe=>by cases e) (λ_=>⟨by omega,by omega⟩)
 ·exact key 64 false 18446744073709551616 9223372036854775808 rfl rfl rfl (by omega) (λe=>by cases e) (λ_=>⟨by omega,by omega⟩)
theorem sQ(k:IntKind)(n:Int):wr k n=k.wrap n:=by
 unfold wr;cases h:fits k n with
 | true=>exact(Z3 h).symm
 | false=>rfl
theorem BR(a b:Int):r8 a b=(a==b):=by
 cases a<;>cases b<;>simp[r8]
 ·rename_i m n;rw[sG];simp[Nat.beq_eq];omega
 ·rename_i m n;rw[sG];simp[Nat.beq_eq]
theorem DV(a b:Int):xo a b=decide (a<b):=by
 cases a<;>cases b<;>simp only[xo]
 ·rename_i m n;have e1:Int.ofNat m=(m:Int):=rfl;have e2:Int.ofNat n=(n:Int):=rfl;rw[sG];simp only[bA,Nat.blt,Nat.ble_eq];constructor<;>intro h<;>omega
 ·rename_i m n;simp;omega
 ·rename_i m n;simp;omega
 ·rename_i m n;rw[sG];simp only[bA,Nat.blt,Nat.ble_eq];constructor<;>intro h<;>omega
theorem PA(a b:Int):DF a b=decide (a<=b):=by unfold DF;rw[DV];rw[sG];simp
theorem Ha{a b:IntKind}(h:Nat.beq (kn a) (kn b)=true):a=b:=by cases a<;>cases b<;>first | rfl | (exact absurd h (by decide))
section ops
variable {P:Program}{ty:Ty}{W:Nat->Code->AC->Prop}{η:Env}{T:Tr V}{H H':Hp}{n n':K}{w:World}{tmps:Array Value}{v:V}
def uB(P:Program)(w:World)(η:Env)(s:Sem Value)(v:V):Prop:=aZ P s w λy w'=>al η v y/\w'=w
theorem uB.ok{s:Sem Value}{v:V}(hH:bk W η H n w)(h:uB P w η s v):aZ P s w λy w'=>∃η',Trans W η H n w η' H n w'/\al η' v y:=
 h.mono λ_ _ ⟨a,b⟩=>⟨η,by subst b;exact .refl hH,a⟩
theorem jt{x:Value}{v:V}(h:al η v x):uB P w η (pure x) v:=aa ⟨h,rfl⟩
def DW(op:BinOp)(k:IntKind)(x y:Int):Sem Value:=
 match op with
 | .add | .sub | .mul=>Op.intArith op k x y
 | .quo | .rem=>Op.intDiv op k x y
 | .and | .or | .xor | .andNot=>Op.intBits op k x y
 | _=>Op.intCmp op x y
theorem PC{op:BinOp}{k:IntKind}{x y:Int}{v:V}(h:oo op k x y=some v)(eW:op≠.shl/\op≠.shr):
 uB P w η (DW op k x y) v:=by
 cases op<;>simp only[oo]at h<;>first | (injection h with h;subst h) | skip
 case add=>rw[sQ];exact jt (.i _ _)
 case sub=>rw[sQ];exact jt (.i _ _)
 case mul=>rw[sQ];exact jt (.i _ _)
 case quo=>
  cases hz:r8 y 0 with
  | true=>rw[hz]at h;cases h
  | false=>
   rw[hz]at h;injection h with h;subst h;rw[BR]at hz;have:¬ y=0:=by simpa using hz
   simp only[DW,Op.intDiv,this,if_false];rw[sQ];exact jt (.i _ _)
 case rem=>
  cases hz:r8 y 0 with
  | true=>rw[hz]at h;cases h
  | false=>
   rw[hz]at h;injection h with h;subst h;rw[BR]at hz;have:¬ y=0:=by simpa using hz
   simp only[DW,Op.intDiv,this,if_false];exact jt (.i _ _)
 case and=>rw[sQ];exact jt (.i _ _)
 case or=>rw[sQ];exact jt (.i _ _)
 case xor=>rw[sQ];exact jt (.i _ _)
 case andNot=>rw[sQ];exact jt (.i _ _)
 case eql=>rw[BR];exact jt (.b _)
 case neq=>rw[BR];exact jt (.b _)
 case lss=>rw[DV];exact jt (.b _)
 case leq=>rw[PA];exact jt (.b _)
 case gtr=>rw[DV];exact jt (.b _)
 case geq=>rw[PA];exact jt (.b _)
 case shl=>exact absurd rfl eW.1
 case shr=>exact absurd rfl eW.2
theorem PD{op:BinOp}{k yk:IntKind}{x y:Int}{v:V}(h:JV op k x y=some v):uB P w η (Op.shift op k x yk y) v:=by
 unfold JV at h;split at h
 ·cases h
 ·rename_i m;have yg:(bif Nat.ble m k.bits then m else k.bits)=min (Int.ofNat m).toNat k.bits:=by
   cases hb:Nat.ble m k.bits with
   | true=>have:=nD hb;simp;omega
   | false=>
    have:¬ m<=k.bits:=λh=>by rw[jB h]at hb;cases hb
    simp;omega
  have Z4:¬ (Int.ofNat m<0):=by have:=sE m;simp;
  rw[yg]at h;unfold Op.shift;simp only[Z4,if_false];have hp:∀q:Nat,(Int.ofNat (Nat.pow 2 q))=(2:Int) ^ q:=λq=>by show((2 ^ q:Nat):Int)=_;simp
  cases op<;>simp only at h<;>first | (cases h;done) | (injection h with h;subst h)
  ·rw[sQ,hp];exact jt (.i _ _)
  ·rw[hp];exact jt (.i _ _)
theorem Z5(l n:Nat):(strOf l n).toList=bU l n:=by rw[Go.ByteArray.toList_eq];simp[strOf]
theorem PE{l m l' m':Nat}(h:m<256 ^ l)(h':m'<256 ^ l'):((bU l m)==(bU l' m'))=(Nat.beq l l'&&Nat.beq m m'):=by
 rw[sG];simp only[beq_iff_eq,bh,Nat.beq_eq];constructor
 ·intro e;have hl:l=l':=by have:=congrArg List.length e;simpa[rz]using this
  subst hl;exact⟨rfl,Zt h h' e⟩
 ·rintro⟨rfl,rfl⟩;rfl
theorem Z6(l m l' m':Nat):Op.bytesLess (bU l m) (bU l' m')=slt l m l' m':=by
 induction l generalizing m l' m' with
 | zero=>
  cases l' with
  | zero=>rfl
  | succ l'=>rfl
 | succ l ih=>
  cases l' with
  | zero=>rfl
  | succ l'=>
   simp only[bU,Op.bytesLess,slt];rw[ih];have e1:(UInt8.ofNat (m % 256)<UInt8.ofNat (m' % 256))↔m % 256<m' % 256:=by rw[UInt8.lt_iff_toNat_lt];simp
   have e2:(UInt8.ofNat (m % 256)=UInt8.ofNat (m' % 256))↔m % 256=m' % 256:=by
    constructor
    ·intro e;have:=congrArg UInt8.toNat e;simpa using this
    ·intro e;rw[e]
   show(decide _||(_==_&&slt l (m / 256) l' (m' / 256)))=(bif Nat.blt (m % 256) (m' % 256) then true else bif Nat.beq (m % 256) (m' % 256) then slt l (m / 256) l' (m' / 256) else false)
   by_cases h1:m % 256<m' % 256
   ·have:Nat.blt (m % 256) (m' % 256)=true:=jB h1;rw[this,rj (e1.2 h1)];rfl
   ·have:Nat.blt (m % 256) (m' % 256)=false:=by
     cases hb:Nat.blt (m % 256) (m' % 256) with
     | false=>rfl
     | true=>exact absurd (nD hb) h1
    rw[this,gj (λh=>h1 (e1.1 h))];by_cases h2:m % 256=m' % 256
    ·rw[h2];simp
    ·have:Nat.beq (m % 256) (m' % 256)=false:=by
      cases hb:Nat.beq (m % 256) (m' % 256) with
      | false=>rfl
      | true=>exact absurd (cL hb) h2
     rw[this];have:(UInt8.ofNat (m % 256)==UInt8.ofNat (m' % 256))=false:=by rw[beq_eq_false_iff_ne];exact λe=>h2 (e2.1 e)
     rw[this];rfl
theorem Z7{op:BinOp}{l m l' m':Nat}{v:V}(hm:m<256 ^ l)(Ki:m'<256 ^ l')(h:GS op l m l' m'=some v):uB P w η (Op.stringOp op (strOf l m) (strOf l' m')) v:=by
 unfold Op.stringOp;simp only[Z5,PE hm Ki,Z6];cases op<;>simp only[GS]at h<;>first | (cases h;done) | skip
 case add=>
  cases hb:Nat.ble (Nat.add l l') 9223372036854775807 with
  | false=>rw[hb]at h;cases h
  | true=>
   rw[hb]at h;injection h with h;subst h;have hle:l+l'<=9223372036854775807:=nD hb;have DX:IntKind.i64.max=9223372036854775807:=rfl;have:¬ (((strOf l m).size+(strOf l' m').size:Nat):Int)>IntKind.i64.max:=by rw[uz,uz,DX];omega
   simp only[this,if_false];have e:strOf l m++strOf l' m'=strOf (l+l') (m+m'*256 ^ l):=by apply ByteArray.ext;rw[ByteArray.data_append];apply jP;show(_++_:Array UInt8).toList=_;simp[strOf,Zs l m l' m' hm]
   rw[e];refine jt (.s _ _ ?_);show m+m'*256 ^ l<256 ^ (l+l');rw[Nat.pow_add];have h1:m'*256 ^ l<=(256 ^ l' - 1)*256 ^ l:=gX _ (by omega);have uA:0<256 ^ l':=Nat.pow_pos (by omega);have h2:(256 ^ l' - 1)*256 ^ l=256 ^ l'*256 ^ l - 256 ^ l:=by rw[Nat.sub_mul,Nat.one_mul]
   have h3:256 ^ l<=256 ^ l'*256 ^ l:=Nat.le_mul_of_pos_left _ uA;rw[dP (256 ^ l) (256 ^ l')];omega
 all_goals (injection h with h;subst h;exact jt (.b _))
end ops
end
end Go.Ev
namespace Go.Ev.X
open Go Go.Ev
section
abbrev Env:=List (K×V)
def lk:Env->K->Option V
 | [],_=>none
 | (k,v)::l,x=>bif K.beq k x then some v else lk l x
def Le(E:Env)(T:Tr V):Prop:=∀k v,lk E k=some v->T.get k=some v
def ge(E:Env):ax->Option V
 | .t k=>lk E k
 | .c v=>some v
def wK(E:Env):List ax->Option (List V)
 | []=>some []
 | x::l=>match ge E x,wK E l with
  | some v,some vs=>some (v::vs)
  | _,_=>none
theorem Le.nil(T:Tr V):Le [] T:=λ_ _ h=>by cases h
theorem Le.put{E:Env}{T:Tr V}(h:Le E T)(k:K)(v:V):Le ((k,v)::E) (T.put (some v) k):=by
 intro x w hw;rw[Tr.fI];simp only[lk]at hw;cases hb:K.beq k x with
 | true=>rw[hb]at hw;rw[au (K.beq_eq hb).symm];exact hw
 | false=>
  rw[hb]at hw;have:x≠k:=λe=>by rw[e,K.beq_refl]at hb;cases hb
  rw[Ξ this];exact h _ _ hw
theorem Le.ge{E:Env}{T:Tr V}(h:Le E T){x:ax}{v:V}(hx:ge E x=some v):aq T x=some v:=by
 cases x with
 | t k=>exact h _ _ hx
 | c w=>exact hx
theorem Le.wK{E:Env}{T:Tr V}(h:Le E T):∀{l:List ax} {vs:List V},X.wK E l=some vs->fD T l=some vs:=by
 intro l
 induction l with
 | nil=>intro vs hv;exact hv
 | cons x l ih=>
  intro vs hv;simp only[X.wK]at hv;split at hv
  ·rename_i v ws h1 h2;simp only[fD,h.ge h1,ih h2];exact hv
  ·cases hv
def je(d:Option K)(v:V)(E:Env):Env:=
 match d with
 | some k=>(k,v)::E
 | none=>E
theorem Le.je{E:Env}{T:Tr V}(h:Le E T)(d:Option K)(v:V):Le (X.je d v E) (eg d (some v) T):=by
 cases d with
 | none=>exact h
 | some k=>exact h.put k v
def dK:Env->Env->Prop
 | [],_=>True
 | (k,v)::l,E=>lk E k=some v/\dK l E
theorem Le.sub{E E':Env}{T:Tr V}(h:Le E T):dK E' E->Le E' T:=by
 induction E' with
 | nil=>intro _;exact Le.nil T
 | cons p E' ih=>
  intro hs k v hv;obtain⟨a,b⟩:=p;simp only[lk]at hv;cases hb:K.beq a k with
  | true=>rw[hb]at hv;cases hv;rw[←K.beq_eq hb];exact h _ _ hs.1
  | false=>rw[hb]at hv;exact ih hs.2 _ _ hv
abbrev Hf:=K->Option O
def hp(h:Hf)(b:K)(o:Option O):Hf:=λk=>if k=b then o else h k
theorem jS(H:Hp)(b:K)(o:Option O):(H.put o b).get=hp H.get b o:=by funext k;rw[Tr.fI];rfl
theorem fR(h:Hf)(b:K)(o:Option O):hp h b o b=o:=by simp[hp]
theorem ox(h:Hf){b k:K}(o:Option O)(hk:k≠b):hp h b o k=h k:=by simp[hp,hk]
def jg(h:Hf)(b:K):Option (List V):=
 match h b with
 | some o=>o.row
 | none=>none
def aX(h:Hf)(agg:Bool)(sz:Nat):V->Option V
 | .p b o=>match jg h b with
  | some l=>bif agg then (match db l o sz with | some l'=>some (.a l') | none=>none) else nth l o
  | none=>none
 | _=>none
theorem PF{H:Hp}{h:Hf}(e:H.get=h)(b:K):rowAt H b=jg h b:=by subst e;rfl
theorem Hb{H:Hp}{h:Hf}(e:H.get=h)(agg:Bool)(sz:Nat)(a:V):wc H agg sz a=aX h agg sz a:=by subst e;rfl
section
variable (C:Nat->Option bN)
def fS(j:F5)(H:Hp)(n:K)(r:R):Prop:=∃f0,∀f,f0<=f->ev C f j H n=some r
def Z8(l:List AO)(T:Tr V)(H:Hp)(n:K)(r:R):Prop:=∃f0,∀f,f0<=f->fZ (ev C f) l T H n=some r
def SO(op:A)(E:Env)(h:Hf)(n:K)(k:V->Hf->K->Prop):Prop:=
 ∀T H,Le E T->H.get=h->∃v H' n',(∃f0,∀f,f0<=f->oper (ev C f) op T H n=some (v,H',n'))/\k v H'.get n'
def WO(l:List AO)(E:Env)(h:Hf)(n:K)(Q:Env->Hf->K->Prop):Prop:=
 ∀T H,Le E T->H.get=h->∃T' H' n' E',Z8 C l T H n ⟨.normal,T',.q,H',n'⟩/\Le E' T'/\Q E' H'.get n'
def WC(c:AC)(E:Env)(h:Hf)(n:K)(Q:Ex->Env->Hf->K->Prop):Prop:=
 ∀T H,Le E T->H.get=h->∃r E',fS C (.code c T) H n r/\Le E' r.T/\Q r.ex E' r.H.get r.n
def τ(f:V)(l:List V)(h:Hf)(n:K)(Q:V->Hf->K->Prop):Prop:=
 ∀H,H.get=h->∃v H' n',fS C (.call f l) H n ⟨.normal,.e,v,H',n'⟩/\Q v H'.get n'
end
section
variable {C:Nat->Option bN}{E E':Env}{h:Hf}{n:K}{Q Q':Ex->Env->Hf->K->Prop}{q q':Env->Hf->K->Prop}
theorem fS.step{j:F5}{H:Hp}{r:R}(h:∃f0,∀f,f0<=f->bD C (ev C f) j H n=some r):fS C j H n r:=by
 obtain⟨f0,h⟩:=h;refine⟨f0+1,λf hf=>?_⟩;cases f with
 | zero=>omega
 | succ f=>exact h f (by omega)
theorem Hc{c:AC}(hw:WC C c E h n Q)(hq:∀ex E h n,Q ex E h n->Q' ex E h n):WC C c E h n Q':=by intro T H hT hH;obtain⟨r,E',h1,h2,h3⟩:=hw T H hT hH;exact⟨r,E',h1,h2,hq _ _ _ _ h3⟩
theorem dQ{c:AC}(hs:dK E' E)(hw:WC C c E' h n Q):WC C c E h n Q:=λT H hT hH=>hw T H (hT.sub hs) hH
theorem Γ{c:AC}(hw:WC C c E' h n Q)(hs:dK E' E):WC C c E h n Q:=dQ hs hw
theorem τ.mono{f:V}{l:List V}{q q':V->Hf->K->Prop}(hw:τ C f l h n q)(hq:∀v h n,q v h n->q' v h n):τ C f l h n q':=by intro H hH;obtain⟨v,H',n',h1,h2⟩:=hw H hH;exact⟨v,H',n',h1,hq _ _ _ h2⟩
theorem ae(hq:Q .normal E h n):WC C .skip E h n Q:=λT H hT hH=>by subst hH;exact⟨⟨.normal,T,.q,H,n⟩,E,fS.step ⟨0,λf _=>rfl⟩,hT,hq⟩
theorem bM{id:Nat}(hq:Q (.exit id) E h n):WC C (.exit id) E h n Q:=λT H hT hH=>by subst hH;exact⟨⟨.exit id,T,.q,H,n⟩,E,fS.step ⟨0,λf _=>rfl⟩,hT,hq⟩
theorem Θ(hq:Q .ret E h n):WC C .ret E h n Q:=λT H hT hH=>by subst hH;exact⟨⟨.ret,T,.q,H,n⟩,E,fS.step ⟨0,λf _=>rfl⟩,hT,hq⟩
theorem Kj{c:AC}(hw:WC C c E h n Q):WC C (.scope c) E h n Q:=by intro T H hT hH;obtain⟨r,E',⟨f0,h1⟩,h2,h3⟩:=hw T H hT hH;exact⟨r,E',fS.step ⟨f0,λf hf=>h1 f hf⟩,h2,h3⟩
theorem aL{l:List AO}(hw:WO C l E h n (λE h n=>Q .normal E h n)):WC C (.reg l) E h n Q:=by intro T H hT hH;obtain⟨T',H',n',E',⟨f0,h1⟩,h2,h3⟩:=hw T H hT hH;exact⟨⟨.normal,T',.q,H',n'⟩,E',fS.step ⟨f0,λf hf=>h1 f hf⟩,h2,h3⟩
def sq(C:Nat->Option bN)(b:AC)(Q:Ex->Env->Hf->K->Prop):Ex->Env->Hf->K->Prop
 | .normal,E,h,n=>WC C b E h n Q
 | .exit i,E,h,n=>Q (.exit i) E h n
 | .ret,E,h,n=>Q .ret E h n
 | .panic v,E,h,n=>Q (.panic v) E h n
theorem ξ{a b:AC}(hw:WC C a E h n (sq C b Q)):WC C (.seq a b) E h n Q:=by
 intro T H hT hH;obtain⟨r,E',⟨f0,h1⟩,h2,h3⟩:=hw T H hT hH;obtain⟨ex,T',v,H',n'⟩:=r;cases ex with
 | normal=>
  obtain⟨r,X2,⟨f1,h4⟩,h5,h6⟩:=h3 T' H' h2 rfl;refine⟨r,X2,fS.step ⟨max f0 f1,λf hf=>?_⟩,h5,h6⟩;simp only[bD];rw[h1 f (by omega)];exact h4 f (by omega)
 | exit i=>
  refine⟨_,E',fS.step ⟨f0,λf hf=>?_⟩,h2,h3⟩;simp only[bD];rw[h1 f hf]
 | ret=>
  refine⟨_,E',fS.step ⟨f0,λf hf=>?_⟩,h2,h3⟩;simp only[bD];rw[h1 f hf]
 | panic u=>
  refine⟨_,E',fS.step ⟨f0,λf hf=>?_⟩,h2,h3⟩;simp only[bD];rw[h1 f hf]
theorem ζ{l:List AO}{b:AC}(hw:WO C l E h n (λE h n=>WC C b E h n Q)):WC C (.seq (.reg l) b) E h n Q:=ξ (aL hw)
theorem cB{c:ax}{a b:AC}{x:Bool}(hc:ge E c=some (.b x))(ht:x=true->WC C a E h n Q)(hf:x=false->WC C b E h n Q):WC C (.cond c a b) E h n Q:=by
 intro T H hT hH;cases x with
 | true=>
  obtain⟨r,E',⟨f0,h1⟩,h2,h3⟩:=ht rfl T H hT hH;exact⟨r,E',fS.step ⟨f0,λf hf=>by simp only[bD,hT.ge hc];exact h1 f hf⟩,h2,h3⟩
 | false=>
  obtain⟨r,E',⟨f0,h1⟩,h2,h3⟩:=hf rfl T H hT hH;exact⟨r,E',fS.step ⟨f0,λf hf=>by simp only[bD,hT.ge hc];exact h1 f hf⟩,h2,h3⟩
theorem an{c:ax}{a b:AC}{x:Bool}(hc:ge E c=some (.b x))(hx:x=true)(ht:WC C a E h n Q):WC C (.cond c a b) E h n Q:=
 cB hc (λ_=>ht) (λe=>by rw[hx]at e;cases e)
theorem ay{c:ax}{a b:AC}{x:Bool}(hc:ge E c=some (.b x))(hx:x=false)(ht:WC C b E h n Q):WC C (.cond c a b) E h n Q:=
 cB hc (λe=>by rw[hx]at e;cases e) (λ_=>ht)
def blk(id:Nat)(Q:Ex->Env->Hf->K->Prop):Ex->Env->Hf->K->Prop
 | .exit i,E,h,n=>bif Nat.beq id i then Q .normal E h n else Q (.exit i) E h n
 | .normal,E,h,n=>Q .normal E h n
 | .ret,E,h,n=>Q .ret E h n
 | .panic v,E,h,n=>Q (.panic v) E h n
theorem aC{id:Nat}{c:AC}(hw:WC C c E h n (blk id Q)):WC C (.block id c) E h n Q:=by
 intro T H hT hH;obtain⟨r,E',⟨f0,h1⟩,h2,h3⟩:=hw T H hT hH;obtain⟨ex,T',v,H',n'⟩:=r;cases ex with
 | exit i=>
  cases hb:Nat.beq id i with
  | true=>
   refine⟨⟨.normal,T',v,H',n'⟩,E',fS.step ⟨f0,λf hf=>?_⟩,h2,?_⟩
   ·simp only[bD];rw[h1 f hf];simp only[hb,cond_true]
   ·simp only[blk,hb,cond_true]at h3;exact h3
  | false=>
   refine⟨⟨.exit i,T',v,H',n'⟩,E',fS.step ⟨f0,λf hf=>?_⟩,h2,?_⟩
   ·simp only[bD];rw[h1 f hf];simp only[hb,cond_false]
   ·simp only[blk,hb,cond_false]at h3;exact h3
 | normal=>
  refine⟨_,E',fS.step ⟨f0,λf hf=>?_⟩,h2,h3⟩;simp only[bD];rw[h1 f hf]
 | ret=>
  refine⟨_,E',fS.step ⟨f0,λf hf=>?_⟩,h2,h3⟩;simp only[bD];rw[h1 f hf]
 | panic u=>
  refine⟨_,E',fS.step ⟨f0,λf hf=>?_⟩,h2,h3⟩;simp only[bD];rw[h1 f hf]
theorem aJ{c:AC}(hw:WC C c E h n (sq C (.loop c) Q)):WC C (.loop c) E h n Q:=by
 intro T H hT hH;obtain⟨r,E',⟨f0,h1⟩,h2,h3⟩:=hw T H hT hH;obtain⟨ex,T',v,H',n'⟩:=r;cases ex with
 | normal=>
  obtain⟨r,X2,⟨f1,h4⟩,h5,h6⟩:=h3 T' H' h2 rfl;refine⟨r,X2,fS.step ⟨max f0 f1,λf hf=>?_⟩,h5,h6⟩;simp only[bD];rw[h1 f (by omega)];exact h4 f (by omega)
 | exit i=>
  refine⟨_,E',fS.step ⟨f0,λf hf=>?_⟩,h2,h3⟩;simp only[bD];rw[h1 f hf]
 | ret=>
  refine⟨_,E',fS.step ⟨f0,λf hf=>?_⟩,h2,h3⟩;simp only[bD];rw[h1 f hf]
 | panic u=>
  refine⟨_,E',fS.step ⟨f0,λf hf=>?_⟩,h2,h3⟩;simp only[bD];rw[h1 f hf]
theorem ε(hq:q E h n):WO C [] E h n q:=λT H hT hH=>by subst hH;exact⟨T,H,n,E,⟨0,λf _=>rfl⟩,hT,hq⟩
theorem Z9{ih:dY}{op:A}{T:Tr V}{H:Hp}{v:V}{H':Hp}{n':K}(ho:oper ih op T H n=some (v,H',n')):∃T',eC ih op T H n=some ⟨.normal,T',v,H',n'⟩:=by
 unfold oper at ho;split at ho
 ·rename_i T' v1 H1 n1 he;cases ho;exact⟨T',he⟩
 ·cases ho
theorem df{d:Option K}{op:A}{Δ:Nat}{l:List AO}(hs:SO C op E h n (λv h' n'=>WO C l (je d v E) h' n' q)):WO C (⟨d,op,none,Δ⟩::l) E h n q:=by intro T H hT hH;obtain⟨v,H',n',⟨f0,h1⟩,h2⟩:=hs T H hT hH;obtain⟨T',qe,nU,E',⟨f1,h3⟩,h4,h5⟩:=h2 _ H' (hT.je d v) U;refine⟨T',qe,nU,E',⟨max f0 f1,λf hf=>?_⟩,h4,h5⟩;obtain⟨T1,h6⟩:=Z9 (h1 f (by omega));simp only[fZ,want,h6];exact h3 f (by omega)
theorem κ{d:Option K}{op:A}{Δ:Nat}{l:List AO}{g:K}{w x:Bool}(hg:lk E g=some (.b x))(hx:x=w)(hs:WO C (⟨d,op,none,Δ⟩::l) E h n q):WO C (⟨d,op,some (g,w),Δ⟩::l) E h n q:=by intro T H hT hH;obtain⟨T',H',n',E',⟨f0,h1⟩,h2,h3⟩:=hs T H hT hH;refine⟨T',H',n',E',⟨f0,λf hf=>?_⟩,h2,h3⟩;have:=h1 f hf;simp only[fZ,want,hT _ _ hg]at this ⊢;subst hx;cases x<;>exact this
theorem μ{d:Option K}{op:A}{Δ:Nat}{l:List AO}{g:K}{w x:Bool}(hg:lk E g=some (.b x))(hx:x=!w)(hs:WO C l (je d (.u []) E) h n q):WO C (⟨d,op,some (g,w),Δ⟩::l) E h n q:=by intro T H hT hH;obtain⟨T',H',n',E',⟨f0,h1⟩,h2,h3⟩:=hs _ H (hT.je d _) hH;refine⟨T',H',n',E',⟨f0,λf hf=>?_⟩,h2,h3⟩;have:=h1 f hf;subst hx;simp only[fZ,want,hT _ _ hg];cases w<;>exact this
theorem eI{d:Option K}{op:A}{Δ:Nat}{l:List AO}{g:K}{w:Bool}(hg:lk E g=some (.u []))(hs:WO C l (je d (.u []) E) h n q):WO C (⟨d,op,some (g,w),Δ⟩::l) E h n q:=by intro T H hT hH;obtain⟨T',H',n',E',⟨f0,h1⟩,h2,h3⟩:=hs _ H (hT.je d _) hH;refine⟨T',H',n',E',⟨f0,λf hf=>?_⟩,h2,h3⟩;have:=h1 f hf;simp only[fZ,want,hT _ _ hg];exact this
def lV:List K->List V->Env->Option Env
 | _,[],E=>some E
 | k::ks,v::vs,E=>lV ks vs ((k,v)::E)
 | [],_::_,_=>none
theorem PG:∀{ks:List K} {vs:List V} {E E':Env} {T:Tr V},Le E T->lV ks vs E=some E'->∃T',binds ks vs T=some T'/\Le E' T':=by
 intro ks vs
 induction vs generalizing ks with
 | nil=>intro E E' T hT he;cases ks<;>(cases he;exact⟨T,rfl,hT⟩)
 | cons v vs ih=>
  intro E E' T hT he;cases ks with
  | nil=>cases he
  | cons k ks=>exact ih (hT.put k v) he
def uD(E:Env)(h:Hf):AR->Option V
 | .t k=>lk E k
 | .cell k agg sz=>match lk E k with
  | some a=>aX h agg sz a
  | none=>none
def rA(E:Env)(h:Hf):List AR->Option (List V)
 | []=>some []
 | r::l=>match uD E h r,rA E h l with
  | some v,some vs=>some (v::vs)
  | _,_=>none
def lW(l:List AR)(E:Env)(h:Hf):Option V:=
 match rA E h l with
 | some [v]=>some v
 | some vs=>some (.u vs)
 | none=>none
theorem aaa{T:Tr V}{H:Hp}(hT:Le E T)(hH:H.get=h){r:AR}{v:V}(hv:uD E h r=some v):result T H r=some v:=by
 cases r with
 | t k=>exact hT _ _ hv
 | cell k agg sz=>
  simp only[uD]at hv;split at hv
  ·rename_i a ha;simp only[result,hT _ _ ha,Hb hH];exact hv
  ·cases hv
theorem aab{T:Tr V}{H:Hp}(hT:Le E T)(hH:H.get=h):∀{l:List AR} {vs:List V},rA E h l=some vs->xV T H l=some vs:=by
 intro l
 induction l with
 | nil=>intro vs hv;exact hv
 | cons r l ih=>
  intro vs hv;simp only[rA]at hv;split at hv
  ·rename_i v ws h1 h2;simp only[xV,aaa hT hH h1,ih h2];exact hv
  ·cases hv
theorem PH{T:Tr V}{H:Hp}(hT:Le E T)(hH:H.get=h){l:List AR}{v:V}(hv:lW l E h=some v):rp l T H=some v:=by
 unfold lW at hv;unfold rp;cases hl:rA E h l with
 | none=>rw[hl]at hv;cases hv
 | some vs=>rw[hl]at hv;rw[aab hT hH hl];exact hv
def fq(res:List AR)(Q:V->Hf->K->Prop):Ex->Env->Hf->K->Prop
 | .normal,E,h,n=>∃v,lW res E h=some v/\Q v h n
 | .ret,E,h,n=>∃v,lW res E h=some v/\Q v h n
 | _,_,_,_=>False
theorem τ.go{g:Nat}{a c l:List V}{af:AF}{Q:V->Hf->K->Prop}(hC:C g=some (.go af))(hE:lV af.jD (a++(l++c)) []=some E)(hw:WC C af.body E h n (fq af.res Q)):τ C (.f g a c) l h n Q:=by
 intro H hH;obtain⟨T,hT,hle⟩:=PG (Le.nil .e) hE;obtain⟨r,E',⟨f0,h1⟩,h2,h3⟩:=hw T H hle hH;obtain⟨ex,T',v,H',n'⟩:=r;cases ex with
 | normal=>
  obtain⟨v,h4,h5⟩:=h3;refine⟨v,H',n',fS.step ⟨f0,λf hf=>?_⟩,h5⟩;simp only[bD,hC,hT];rw[h1 f hf];simp only[PH h2 rfl h4]
 | ret=>
  obtain⟨v,h4,h5⟩:=h3;refine⟨v,H',n',fS.step ⟨f0,λf hf=>?_⟩,h5⟩;simp only[bD,hC,hT];rw[h1 f hf];simp only[PH h2 rfl h4]
 | exit i=>exact h3.elim
 | panic v=>exact h3.elim
theorem τ.pm{g:Nat}{a c l:List V}{p:Pm}{Q:V->Hf->K->Prop}(hC:C g=some (.pm p))(hp:∀H:Hp,H.get=h->∃v H' n',Ev.pm p (a++(l++c)) H n=some (v,H',n')/\Q v H'.get n'):τ C (.f g a c) l h n Q:=by intro H hH;obtain⟨v,H',n',h1,h2⟩:=hp H hH;exact⟨v,H',n',fS.step ⟨0,λf _=>by simp only[bD,hC,h1]⟩,h2⟩
end
end
section
abbrev st(bs:List UInt8):V:=.s bs.length (bp bs)
theorem aac{a b:List UInt8}(hl:a.length=b.length)(h:bp a=bp b):a=b:=by rw[←J4 a,←J4 b,hl,h]
theorem dD(a b:Nat):Nat.beq a b=decide (a=b):=by
 cases h:Nat.beq a b with
 | true=>rw[cL h];simp
 | false=>have:=Nat.ne_of_beq_eq_false h;simp[this]
theorem jF(a b:Nat):Nat.ble a b=decide (a<=b):=by
 cases h:Nat.ble a b with
 | true=>have:=nD h;simp[this]
 | false=>
  have:¬ a<=b:=λe=>by rw[jB e]at h;cases h
  simp[this]
theorem fJ(a b:Nat):Nat.blt a b=decide (a<b):=by show Nat.ble (a+1) b=_;rw[jF];rfl
theorem He(a b:List UInt8):(Nat.beq a.length b.length&&Nat.beq (bp a) (bp b))=decide (a=b):=by
 rw[dD,dD];by_cases h:a=b
 ·subst h;simp
 ·by_cases hl:a.length=b.length
  ·have:bp a≠bp b:=λe=>h (aac hl e);simp[hl,this,h]
  ·simp[hl,h]
theorem Kk(bs:List UInt8):∀i,bp bs / 256 ^ i=bp (bs.drop i):=by
 intro i
 induction i generalizing bs with
 | zero=>simp
 | succ i ih=>
  cases bs with
  | nil=>simp[bp]
  | cons b l=>
   rw[gI,dP,←Dx];have hb:b.toNat<256:=b.toNat_lt;have:bp (b::l) / 256=bp l:=by simp only[bp];omega
   rw[this,ih];rfl
theorem aad(bs:List UInt8):∀k,bp bs % 256 ^ k=bp (bs.take k):=by
 intro k
 induction k generalizing bs with
 | zero=>simp[bp,Nat.mod_one]
 | succ k ih=>
  cases bs with
  | nil=>simp[bp]
  | cons b l=>
   have hb:b.toNat<256:=b.toNat_lt;simp only[sD,bp];rw[←ih,gI,dP (256 ^ k) 256,Nat.mod_mul];have h1:(b.toNat+256*bp l) % 256=b.toNat:=by omega
   have h2:(b.toNat+256*bp l) / 256=bp l:=by omega
   rw[h1,h2]
theorem DY(bs:List UInt8){i:Nat}(h:i<bs.length):I6 (bp bs) i=bs[i].toNat:=by show(bp bs / 256 ^ i) % 256=_;rw[Kk,fC h];have hb:bs[i].toNat<256:=bs[i].toNat_lt;simp only[bp];omega
theorem aae(bs:List UInt8)(a b:Nat):DG (bp bs) a b=bp ((bs.drop a).take (b - a)):=by show(bp bs / 256 ^ a) % (256 ^ (b - a))=_;rw[Kk,aad]
def oy:IntKind->Int->Prop
 | .i64,n=>-9223372036854775808<=n/\n<=9223372036854775807
 | .u64,n=>0<=n/\n<=18446744073709551615
 | .u32,n=>0<=n/\n<=4294967295
 | .i32,n=>-2147483648<=n/\n<=2147483647
 | .u8,n=>0<=n/\n<=255
 | _,_=>False
theorem DZ{k:IntKind}{n:Int}(h:oy k n):wr k n=n:=by
 have:fits k n=true:=by cases k<;>cases n<;>simp only[oy,Int.ofNat_eq_natCast]at h<;>simp only[fits,jF]<;>simp<;>omega
 simp[wr,this]
theorem hJ(a b:Int):r8 a b=decide (a=b):=by cases a<;>cases b<;>simp only[r8,dD,Int.ofNat_eq_natCast]<;>simp<;>omega
theorem Hg(a b:Int):xo a b=decide (a<b):=by cases a<;>cases b<;>simp only[xo,fJ,Int.ofNat_eq_natCast]<;>simp<;>omega
theorem PI(a b:Int):DF a b=decide (a<=b):=by rw[DF,Hg];simp only[←decide_not];congr 1;simp;
theorem jG(k:IntKind):Nat.beq (kn k) (kn k)=true:=by cases k<;>rfl
section
variable {C:Nat->Option bN}{E:Env}{h:Hf}{n:K}{k:V->Hf->K->Prop}
theorem uE{op:A}(aR:∀ih T H n,eC ih op T H n=match simple op T H n with | some (v,H,n)=>some ⟨.normal,.e,v,H,n⟩ | none=>none)
 (hs:∀T H,Le E T->H.get=h->∃v H' n',simple op T H n=some (v,H',n')/\k v H'.get n'):SO C op E h n k:=by
 intro T H hT hH;obtain⟨v,H',n',h1,h2⟩:=hs T H hT hH;refine⟨v,H',n',⟨0,λf _=>?_⟩,h2⟩;unfold oper;rw[aR,h1]
theorem gE{op:A}{v:V}(aR:∀ih T H n,eC ih op T H n=match simple op T H n with | some (v,H,n)=>some ⟨.normal,.e,v,H,n⟩ | none=>none)
 (hs:∀T H,Le E T->H.get=h->simple op T H n=some (v,H,n))(hk:k v h n):SO C op E h n k:=
 uE aR λT H hT hH=>⟨v,H,n,hs T H hT hH,by rw[hH];exact hk⟩
theorem PJ{x:ax}{v:V}(hx:ge E x=some v)(hk:k v h n):SO C (.mv x) E h n k:=
 gE (λ_ _ _ _=>rfl) (λT H hT hH=>by simp only[simple,hT.ge hx,dX]) hk
theorem PK{c a b:ax}{x:Bool}{v:V}(hc:ge E c=some (.b x))(hx:x=true)(ha:ge E a=some v)(hk:k v h n):SO C (.pick c a b) E h n k:=
 gE (λ_ _ _ _=>rfl) (λT H hT hH=>by subst hx;simp only[simple,hT.ge hc,cond_true,hT.ge ha,dX]) hk
theorem PL{c a b:ax}{x:Bool}{v:V}(hc:ge E c=some (.b x))(hx:x=false)(ha:ge E b=some v)(hk:k v h n):SO C (.pick c a b) E h n k:=
 gE (λ_ _ _ _=>rfl) (λT H hT hH=>by subst hx;simp only[simple,hT.ge hc,cond_false,hT.ge ha,dX]) hk
theorem mI{op:BinOp}{q:ey}{x y:ax}{a b v:V}(hx:ge E x=some a)(hy:ge E y=some b)(hv:pk op q a b=some v)(hk:k v h n):SO C (.bin op q x y) E h n k:=
 gE (λ_ _ _ _=>rfl) (λT H hT hH=>by simp only[simple,hT.ge hx,hT.ge hy,hv,dX]) hk
section
variable {q:ey}{x y:ax}{i:IntKind}{a b:Int}
theorem sT{op:BinOp}(h1:op≠.shl)(h2:op≠.shr):pk op q (.i i a) (.i i b)=oo op i a b:=by cases op<;>first | contradiction | (simp only[pk,jG,cond_true])
theorem PM(hx:ge E x=some (.i i a))(hy:ge E y=some (.i i b))(hr:oy i (a+b))(hk:k (.i i (a+b)) h n):SO C (.bin .add q x y) E h n k:=
 mI hx hy (by rw[sT (by simp) (by simp)];show some (V.i i (wr i (a+b)))=_;rw[DZ hr]) hk
theorem PN(hx:ge E x=some (.i i a))(hy:ge E y=some (.i i b))(hr:oy i (a - b))(hk:k (.i i (a - b)) h n):SO C (.bin .sub q x y) E h n k:=
 mI hx hy (by rw[sT (by simp) (by simp)];show some (V.i i (wr i (a - b)))=_;rw[DZ hr]) hk
theorem PO(hx:ge E x=some (.i i a))(hy:ge E y=some (.i i b))(hr:oy i (a*b))(hk:k (.i i (a*b)) h n):SO C (.bin .mul q x y) E h n k:=
 mI hx hy (by rw[sT (by simp) (by simp)];show some (V.i i (wr i (a*b)))=_;rw[DZ hr]) hk
theorem PQ{a b:Nat}(hx:ge E x=some (.i i a))(hy:ge E y=some (.i i b))(hb:0<b)(hr:oy i ((a / b:Nat):Int))(hk:k (.i i ((a / b:Nat):Int)) h n):SO C (.bin .quo q x y) E h n k:=
 mI hx hy (by
  rw[sT (by simp) (by simp)];have h0:r8 (b:Int) 0=false:=by rw[hJ];simp;omega
  have h1:Int.tdiv (a:Int) (b:Int)=((a / b:Nat):Int):=by simp
  simp only[oo,h0,cond_false,h1,DZ hr]) hk
theorem PS{a b:Nat}(hx:ge E x=some (.i i a))(hy:ge E y=some (.i i b))(hb:0<b)(hk:k (.i i ((a % b:Nat):Int)) h n):SO C (.bin .rem q x y) E h n k:=
 mI hx hy (by
  rw[sT (by simp) (by simp)];have h0:r8 (b:Int) 0=false:=by rw[hJ];simp;omega
  have h1:Int.tmod (a:Int) (b:Int)=((a % b:Nat):Int):=Int.ofNat_tmod a b;simp only[oo,h0,cond_false,h1]) hk
theorem PT(hx:ge E x=some (.i i a))(hy:ge E y=some (.i i b))(hk:k (.b (decide (a=b))) h n):SO C (.bin .eql q x y) E h n k:=
 mI hx hy (by rw[sT (by simp) (by simp)];simp only[oo,hJ]) hk
theorem PU(hx:ge E x=some (.i i a))(hy:ge E y=some (.i i b))(hk:k (.b (!decide (a=b))) h n):SO C (.bin .neq q x y) E h n k:=
 mI hx hy (by rw[sT (by simp) (by simp)];simp only[oo,hJ]) hk
theorem PV(hx:ge E x=some (.i i a))(hy:ge E y=some (.i i b))(hk:k (.b (decide (a<b))) h n):SO C (.bin .lss q x y) E h n k:=
 mI hx hy (by rw[sT (by simp) (by simp)];simp only[oo,Hg]) hk
theorem aaf(hx:ge E x=some (.i i a))(hy:ge E y=some (.i i b))(hk:k (.b (decide (a<=b))) h n):SO C (.bin .leq q x y) E h n k:=
 mI hx hy (by rw[sT (by simp) (by simp)];simp only[oo,PI]) hk
theorem PW(hx:ge E x=some (.i i a))(hy:ge E y=some (.i i b))(hk:k (.b (decide (b<a))) h n):SO C (.bin .gtr q x y) E h n k:=
 mI hx hy (by rw[sT (by simp) (by simp)];simp only[oo,Hg]) hk
theorem PX(hx:X.ge E x=some (.i i a))(hy:ge E y=some (.i i b))(hk:k (.b (decide (b<=a))) h n):SO C (.bin .geq q x y) E h n k:=
 mI hx hy (by rw[sT (by simp) (by simp)];simp only[oo,PI]) hk
theorem PY{j:IntKind}(hx:X.ge E x=some (.i i a))(hr:oy j a)(hk:k (.i j a) h n):SO C (.cv (.toInt j) x) E h n k:=
 gE (λ_ _ _ _=>rfl) (λT H hT hH=>by simp only[simple,hT.ge hx,qR,DZ hr]) hk
end
theorem PZ{x:ax}{b:Bool}(hx:ge E x=some (.b b))(hk:k (.b (!b)) h n):SO C (.un .not x) E h n k:=
 gE (λ_ _ _ _=>rfl) (λT H hT hH=>by simp only[simple,hT.ge hx,JW,dX]) hk
theorem aag{x y:ax}{a b:Bool}(hx:X.ge E x=some (.b a))(hy:X.ge E y=some (.b b))(hk:k (.b (a==b)) h n):SO C (.bin .eql (.one .bool) x y) E h n k:=
 mI hx hy rfl hk
theorem P2{x y:ax}{a b:Bool}(hx:X.ge E x=some (.b a))(hy:X.ge E y=some (.b b))(hk:k (.b (!(a==b))) h n):SO C (.bin .neq (.one .bool) x y) E h n k:=
 mI hx hy rfl hk
section
variable {q:ey}{x y:ax}{a b:List UInt8}
theorem P3(hx:ge E x=some (st a))(hy:ge E y=some (st b))(hk:k (.b (decide (a=b))) h n):SO C (.bin .eql q x y) E h n k:=
 mI hx hy (by show some (V.b (_&&_))=_;rw[He]) hk
theorem P4(hx:ge E x=some (st a))(hy:ge E y=some (st b))(hk:k (.b (!decide (a=b))) h n):SO C (.bin .neq q x y) E h n k:=
 mI hx hy (by show some (V.b (!(_&&_)))=_;rw[He]) hk
theorem aah(hx:ge E x=some (st a))(hk:k (.i .i64 (a.length:Nat)) h n):SO C (.len 0 x) E h n k:=
 gE (λ_ _ _ _=>rfl) (λT H hT hH=>by simp only[simple,hT.ge hx];rfl) hk
theorem P5{i:IntKind}{j:Nat}(hx:ge E x=some (st a))(hy:ge E y=some (.i i (j:Nat)))(hj:j<a.length)(hk:k (.i .u8 (a[j].toNat:Nat)) h n):SO C (.idx none x y) E h n k:=
 gE (λ_ _ _ _=>rfl) (λT H hT hH=>by
  have h1:=hT.ge hx;have h2:=hT.ge hy;have h3:Nat.blt j a.length=true:=by rw[fJ];simpa using hj
  simp only[simple,h1,h2];show(bif Nat.blt j a.length then _ else _)=_
  rw[h3,cond_true,DY a hj];rfl) hk
end
def bd(E:Env)(d:Nat):Option ax->Option Nat
 | none=>some d
 | some x=>match ge E x with | some v=>JX v | none=>none
theorem Le.bd{T:Tr V}(hT:Le E T){d:Nat}{x:Option ax}{m:Nat}(hx:X.bd E d x=some m):dH T d x=some m:=by
 cases x with
 | none=>exact hx
 | some x=>
  simp only[X.bd]at hx;split at hx
  ·rename_i v hv;simp only[dH,hT.ge hv];exact hx
  ·cases hx
theorem P6{x:ax}{lo hi:Option ax}{a:List UInt8}{i j:Nat}(hx:ge E x=some (st a))(gg:bd E 0 lo=some i)(nX:bd E a.length hi=some j)(h1:i<=j)(h2:j<=a.length)
 (hk:k (st ((a.drop i).take (j - i))) h n):SO C (.sli .str x lo hi none) E h n k:=
 gE (λ_ _ _ _=>rfl) (λT H hT hH=>by
  have e1:=hT.ge hx;have e2:=hT.bd gg;have e3:=hT.bd nX;simp only[simple,e1];show dX H n (oq .str T (.s a.length (bp a)) lo hi none)=_;have e4:Nat.ble i j=true:=by rw[jF];simpa using h1
  have e5:Nat.ble j a.length=true:=by rw[jF];simpa using h2
  simp only[oq,e2,e3,e4,e5,om,cond_true,dX,aae];have:Nat.sub j i=((a.drop i).take (j - i)).length:=by simp;show j - i=_;omega
  rw[this]) hk
theorem P7{x:ax}{i:Nat}{l:List V}{v:V}(hx:ge E x=some (.u l))(hv:nth l i=some v)(hk:k v h n):SO C (.ext x i) E h n k:=
 gE (λ_ _ _ _=>rfl) (λT H hT hH=>by simp only[simple,hT.ge hx,hv,dX]) hk
theorem aai{x:ax}{o sz:Nat}{l:List V}{v:V}(hx:ge E x=some (.a l))(hv:nth l o=some v)(hk:k v h n):SO C (.fld false o sz x) E h n k:=
 gE (λ_ _ _ _=>rfl) (λT H hT hH=>by simp only[simple,hT.ge hx,hv,dX,cond_false]) hk
def jh(E:Env)(zs:List V):List (Nat×Nat×ax)->Option (List V)
 | []=>some zs
 | (o,sz,x)::ps=>match ge E x with
  | some v=>bif Nat.beq v.cells.length sz&&bE v.cells then (match eK v.cells zs o with | some I7=>jh E I7 ps | none=>none) else none
  | none=>none
theorem Le.fill{T:Tr V}(hT:Le E T):∀{ps:List (Nat×Nat×ax)} {zs l:List V},jh E zs ps=some l->rn T zs ps=some l:=by
 intro ps
 induction ps with
 | nil=>intro zs l hl;exact hl
 | cons p ps ih=>
  intro zs l hl;obtain⟨o,sz,x⟩:=p;simp only[jh]at hl;split at hl
  ·rename_i v hv;simp only[rn,hT.ge hv];cases hb:(Nat.beq v.cells.length sz&&bE v.cells) with
   | false=>rw[hb]at hl;cases hl
   | true=>
    rw[hb]at hl;simp only[cond_true]at hl ⊢;split at hl
    ·rename_i I7 hz;first | exact ih hl | (simp only[hz];exact ih hl)
    ·cases hl
  ·cases hl
theorem P8{zs l:List V}{ps:List (Nat×Nat×ax)}(hl:jh E zs ps=some l)(hk:k (.a l) h n):SO C (.bld zs ps) E h n k:=
 gE (λ_ _ _ _=>rfl) (λT H hT hH=>by simp only[simple,hT.fill hl]) hk
theorem aaj{f:Nat}{a c:List ax}{as cs:List V}(ha:wK E a=some as)(hc:wK E c=some cs)(hk:k (.f f as cs) h n):SO C (.mfn f a c) E h n k:=
 gE (λ_ _ _ _=>rfl) (λT H hT hH=>by simp only[simple,hT.wK ha,hT.wK hc]) hk
theorem aak{x:ax}{b:K}{o:Nat}(hx:ge E x=some (.p b o))(hk:k (.p b o) h n):SO C (.nck x) E h n k:=
 gE (λ_ _ _ _=>rfl) (λT H hT hH=>by simp only[simple,hT.ge hx]) hk
theorem P9{x y:ax}{i:IntKind}{a b:Int}(hx:X.ge E x=some (.i i a))(hy:X.ge E y=some (.i i b))(hk:k (.i i (max a b)) h n):SO C (.mm true [x,y]) E h n k:=
 gE (λ_ _ _ _=>rfl) (λT H hT hH=>by
  simp only[simple,fD,hT.ge hx,hT.ge hy,BH,N9,cond_true,dX,Hg];congr 3;by_cases hab:a<b
  ·simp[hab];omega
  ·simp[hab];omega) hk
theorem Qa{f:ax}{l:List ax}{fv:V}{vs:List V}(hf:ge E f=some fv)(hl:wK E l=some vs)(hc:τ C fv vs h n k):SO C (.cg f l) E h n k:=by intro T H hT hH;obtain⟨v,H',n',⟨f0,h1⟩,h2⟩:=hc H hH;refine⟨v,H',n',⟨f0,λf C0=>?_⟩,h2⟩;simp only[oper,eC,hT.ge hf,hT.wK hl,h1 f C0]
end
end
section
def Ext(h:Hf)(n:K)(h':Hf)(n':K):Prop:=n.num<=n'.num/\∀k:K,k.num<n.num->h' k=h k
theorem Ext.refl(h:Hf)(n:K):Ext h n h n:=⟨χ _,λ_ _=>rfl⟩
theorem Ext.trans{h h1 h2:Hf}{n n1 n2:K}(a:Ext h n h1 n1)(b:Ext h1 n1 h2 n2):Ext h n h2 n2:=
 ⟨iH a.1 b.1,λk hk=>by rw[b.2 k (fk hk a.1),a.2 k hk]⟩
theorem Ext.trans'{h h1 h2:Hf}{n n1 n2:K}(a:Ext h n h1 n1)(b1:n1.num<=n2.num)(b2:∀k:K,k.num<n.num->h2 k=h1 k):Ext h n h2 n2:=
 ⟨iH a.1 b1,λk hk=>by rw[b2 k hk,a.2 k hk]⟩
theorem Ext.new{h h1:Hf}{n n1:K}(a:Ext h n h1 n1)(o:Option O):Ext h n (hp h1 n1 o) n1.succ:=
 ⟨by rw[K.fQ];have:=a.1;omega,λk hk=>by rw[ox _ _ (λe=>by subst e;have:=a.1;omega),a.2 k hk]⟩
theorem Ext.succ{h h1:Hf}{n n1:K}(a:Ext h n h1 n1):Ext h n h1 n1.succ:=⟨by rw[K.fQ];have:=a.1;omega,a.2⟩
theorem Ext.row{h h':Hf}{n n':K}(a:Ext h n h' n'){b:K}(hb:b.num<n.num):jg h' b=jg h b:=by unfold jg;rw[a.2 b hb]
theorem Ext.ld{h h':Hf}{n n':K}(a:Ext h n h' n'){b:K}(hb:b.num<n.num)(agg:Bool)(sz o:Nat):aX h' agg sz (.p b o)=aX h agg sz (.p b o):=by simp only[aX,a.row hb]
theorem sU{a b:K}(h:a.num≠b.num):a≠b:=λe=>h (by rw[e])
theorem aam(h:Hf)(b:K)(o:O):jg (hp h b (some o)) b=o.row:=by simp[jg,fR]
section
variable {C:Nat->Option bN}{E:Env}{h:Hf}{n:K}{k:V->Hf->K->Prop}
theorem D2{op:A}{o:O}{v:V}(aR:∀ih T H n,eC ih op T H n=match simple op T H n with | some (v,H,n)=>some ⟨.normal,.e,v,H,n⟩ | none=>none)
 (hs:∀T H,Le E T->H.get=h->simple op T H n=kp H n o v)(hk:k v (hp h n (some o)) n.succ):SO C op E h n k:=
 uE aR λT H hT hH=>⟨v,H.put (some o) n,n.succ,hs T H hT hH,by rw[jS,hH];exact hk⟩
theorem aan{e:Nat}{zs:List V}(hk:k (.p n 0) (hp h n (some (.c zs e 0))) n.succ):SO C (.new e zs) E h n k:=
 D2 (λ_ _ _ _=>rfl) (λT H hT hH=>rfl) hk
theorem aao{e:Nat}{x:ax}{v:V}{cs:List V}(hx:ge E x=some v)(hc:v.cells=cs)(ho:bE cs=true)(hk:k (.p n 0) (hp h n (some (.c cs e 0))) n.succ):SO C (.box e x) E h n k:=
 D2 (λ_ _ _ _=>rfl) (λT H hT hH=>by simp only[simple,hT.ge hx,hc,ho,cond_true]) hk
theorem aap{e len:Nat}{zs l:List V}{ps:List (Nat×Nat×ax)}(hl:jh E zs ps=some l)(hk:k (.sl n 0 len len) (hp h n (some (.c l e 0))) n.succ):SO C (.bsl e zs len ps) E h n k:=
 D2 (λ_ _ _ _=>rfl) (λT H hT hH=>by simp only[simple,hT.fill hl]) hk
theorem aaq{e esz bytes m:Nat}{z:List V}{x y:ax}{i j:IntKind}(hx:ge E x=some (.i i (m:Nat)))(hy:ge E y=some (.i j (m:Nat)))(hb:m*bytes<=140737488355328)(fM:m<=9223372036854775807)
 (hk:k (.sl n 0 m m) (hp h n (some (.c (iw z m) e 0))) n.succ):SO C (.msl e esz bytes z x y) E h n k:=
 D2 (λ_ _ _ _=>rfl) (λT H hT hH=>by
  simp only[simple,hT.ge hx,hT.ge hy];show(bif Nat.ble m m&&Nat.ble (m*bytes) 140737488355328&&Nat.ble m 9223372036854775807 then _ else _)=_
  rw[jB (χ m),jB hb,jB fM];rfl) hk
theorem aar{agg:Bool}{sz:Nat}{a:ax}{p v:V}(ha:ge E a=some p)(hv:aX h agg sz p=some v)(hk:k v h n):SO C (.ld agg sz a) E h n k:=
 gE (λ_ _ _ _=>rfl) (λT H hT hH=>by simp only[simple,hT.ge ha,Hb hH,hv,dX]) hk
theorem Qb{o off:Nat}{x:ax}{b:K}(hx:ge E x=some (.p b o))(hk:k (.p b (o+off)) h n):SO C (.fad off x) E h n k:=
 gE (λ_ _ _ _=>rfl) (λT H hT hH=>by simp only[simple,hT.ge hx];rfl) hk
def nh(l:List V)(fz o sz:Nat)(v:V):Option (List V):=
 bif Nat.beq v.cells.length sz&&(Nat.ble fz o&&bE v.cells) then eK v.cells l o else none
theorem aas{sz:Nat}{a x:ax}{b:K}{o e fz:Nat}{l l':List V}{v:V}(ha:ge E a=some (.p b o))(hx:ge E x=some v)(hb:h b=some (.c l e fz))(hl:nh l fz o sz v=some l')
 (hk:k (.u []) (hp h b (some (.c l' e fz))) n):SO C (.st sz a x) E h n k:=
 uE (λ_ _ _ _=>rfl) λT H hT hH=>by
  refine⟨.u [],H.put (some (.c l' e fz)) b,n,?_,by rw[jS,hH];exact hk⟩;unfold nh at hl;cases h1:Nat.beq v.cells.length sz with
  | false=>rw[h1]at hl;cases hl
  | true=>
   rw[h1]at hl;cases h2:(Nat.ble fz o&&bE v.cells) with
   | false=>rw[h2]at hl;cases hl
   | true=>
    rw[h2]at hl;simp only[om,cond_true]at hl;have ku:H.get b=some (.c l e fz):=by rw[hH];exact hb
    simp only[simple,hT.ge ha,hT.ge hx,CX,h1,cond_true,iu,ku,h2,hl,qd]
def _root_.Go.Ev.V.blk:V->K
 | .sl b _ _ _ | .su b _ _ _=>b
 | _=>.h
def _root_.Go.Ev.V.off:V->Nat
 | .sl _ o _ _ | .su _ o _ _=>o
 | _=>0
def φ(h:Hf)(n:K)(z:Nat)(v:V)(len:Nat)(cs:List V):Prop:=
 cs.length=len*z/\((v=.ns/\len=0)\/((∃b o c,((v=.sl b o len c/\len<=c)\/v=.su b o len z)/\b.num<n.num)/\∃row,jg h v.blk=some row/\db row v.off (len*z)=some cs))
theorem φ.ns(h:Hf)(n:K)(z:Nat):φ h n z .ns 0 []:=⟨by simp,Or.inl ⟨rfl,rfl⟩⟩
theorem φ.ext{h h':Hf}{n n':K}{z:Nat}{v:V}{len:Nat}{cs:List V}(a:φ h n z v len cs)(e:Ext h n h' n'):φ h' n' z v len cs:=by
 obtain⟨h1,h2⟩:=a;refine⟨h1,h2.imp id λ⟨⟨b,o,c,h3,h4⟩,row,h5,h6⟩=>⟨⟨b,o,c,h3,fk h4 e.1⟩,row,?_,h6⟩⟩;have:v.blk=b:=by cases h3 with | inl e=>rw[e.1];rfl | inr e=>rw[e];rfl
 rw[e.row (by rw[this];exact h4)];exact h5
theorem φ.zQ{h:Hf}{n:K}{z:Nat}{v:V}{len:Nat}{cs:List V}(a:φ h n z v len cs)(hl:0<len):v.blk.num<n.num:=by
 obtain⟨h1,h2⟩:=a;cases h2 with
 | inl h=>omega
 | inr h=>obtain⟨⟨b,o,c,h3,h4⟩,_⟩:=h;cases h3 with | inl e=>rw[e.1];exact h4 | inr e=>rw[e];exact h4
theorem φ.one{h:Hf}{n:K}{z:Nat}{v:V}{len:Nat}{cs:List V}(a:φ h n z v len cs):v.one=true:=by
 obtain⟨h1,h2⟩:=a;cases h2 with
 | inl h=>rw[h.1];rfl
 | inr h=>obtain⟨⟨b,o,c,h3,h4⟩,_⟩:=h;cases h3 with | inl e=>rw[e.1];rfl | inr e=>rw[e];rfl
theorem φ.cells{h:Hf}{n:K}{z:Nat}{v:V}{len:Nat}{cs:List V}(a:φ h n z v len cs):v.cells=[v]:=by
 obtain⟨h1,h2⟩:=a;cases h2 with
 | inl h=>rw[h.1];rfl
 | inr h=>obtain⟨⟨b,o,c,h3,h4⟩,_⟩:=h;cases h3 with | inl e=>rw[e.1];rfl | inr e=>rw[e];rfl
theorem yh{α:Type}{l:List α}{o m:Nat}(hl:o+m<=l.length):db l o m=some ((l.drop o).take m):=by
 have h1:∀(o:Nat) (l:List α),o<=l.length->pj o l=some (l.drop o):=by
  intro o
  induction o with
  | zero=>intro l _;rfl
  | succ o ih=>intro l hl;cases l with
   | nil=>simp at hl
   | cons a l=>exact ih l (by simpa using hl)
 have h2:∀(m:Nat) (l:List α),m<=l.length->takeN m l=some (l.take m):=by
  intro m
  induction m with
  | zero=>intro l _;simp[takeN]
  | succ m ih=>intro l hl;cases l with
   | nil=>simp at hl
   | cons a l=>simp only[takeN,ih l (by simpa using hl),sD]
 unfold db;rw[h1 o l (by omega)];exact h2 m _ (by simp;omega)
theorem Qc{α:Type}{l cs:List α}{o m i j:Nat}(hs:db l o m=some cs)(tM:i+j<=m):db l (o+i) j=some ((cs.drop i).take j):=by obtain⟨e,hl⟩:=ow hs;rw[yh (by omega),e,List.drop_take,List.take_take,List.drop_drop];congr 2;omega
theorem Qd{α:Type}{l cs:List α}{o m i:Nat}(hs:db l o m=some cs)(hi:i<m):nth l (o+i)=nth cs i:=by obtain⟨e,hl⟩:=ow hs;rw[pr,pr,e,List.getElem?_take,au hi,Bw]
theorem φ.get{z:Nat}{v:V}{len:Nat}{cs:List V}(a:φ h n z v len cs){i:Nat}{w:V}(hi:nth cs i=some w)(sz:Nat):aX h false sz (.p v.blk (v.off+i))=some w:=by
 obtain⟨h1,h2⟩:=a;have ω:i<cs.length:=by rw[pr]at hi;exact(oj.1 hi).1
 cases h2 with
 | inl h=>rw[h1,h.2]at ω;omega
 | inr h=>
  obtain⟨_,row,h5,h6⟩:=h;simp only[aX,h5,cond_false];rw[Qd h6 (by omega)];exact hi
theorem φ.nF{z:Nat}{v:V}{len:Nat}{cs:List V}(a:φ h n z v len cs){i sz:Nat}(hi:i+sz<=len*z)(uA:0<len):aX h true sz (.p v.blk (v.off+i))=some (.a ((cs.drop i).take sz)):=by
 obtain⟨h1,h2⟩:=a;cases h2 with
 | inl h=>omega
 | inr h=>
  obtain⟨_,row,h5,h6⟩:=h;simp only[aX,h5,cond_true,Qc h6 hi]
theorem aat{z:Nat}{x:ax}{v:V}{len:Nat}{cs:List V}{h0:Hf}{n0:K}(hx:ge E x=some v)(a:φ h0 n0 z v len cs)(hk:k (.i .i64 (len:Nat)) h n):SO C (.len 1 x) E h n k:=
 gE (λ_ _ _ _=>rfl) (λT H hT hH=>by
  have e:=hT.ge hx;obtain⟨h1,h2⟩:=a;cases h2 with
  | inl h=>rw[h.1]at e;simp only[simple,e,h.2];rfl
  | inr h=>
   obtain⟨⟨b,o,c,h3,h4⟩,_⟩:=h;cases h3 with
   | inl e'=>replace e':=e'.1;rw[e']at e;simp only[simple,e];rfl
   | inr e'=>rw[e']at e;simp only[simple,e];rfl) hk
theorem Qe{z:Nat}{x y:ax}{v:V}{len i:Nat}{j:IntKind}{cs:List V}{h0:Hf}{n0:K}(hx:ge E x=some v)(hy:ge E y=some (.i j (i:Nat)))(a:φ h0 n0 z v len cs)(hi:i<len)
 (hk:k (.p v.blk (v.off+i*z)) h n):SO C (.iad none z x y) E h n k:=
 gE (λ_ _ _ _=>rfl) (λT H hT hH=>by
  have e:=hT.ge hx;have e2:aq T y=some (.i j (Int.ofNat i)):=hT.ge hy;have e3:Nat.blt i len=true:=by rw[fJ];simpa using hi
  obtain⟨h1,h2⟩:=a;cases h2 with
  | inl h=>omega
  | inr h=>
   obtain⟨⟨b,o,c,h3,h4⟩,_⟩:=h;cases h3 with
   | inl e'=>replace e':=e'.1;rw[e']at e;simp only[simple,e,e2,e3,cond_true,e'];rfl
   | inr e'=>rw[e']at e;simp only[simple,e,e2,e3,cond_true,e'];rfl) hk
theorem zR(T:Tr V)(d:Nat):dH T d none=some d:=rfl
theorem Qf{z:Nat}{x:ax}{lo hi:Option ax}{v:V}{len i j:Nat}{cs:List V}(hx:ge E x=some v){n0:K}(a:φ h n0 z v len cs)(gg:bd E 0 lo=some i)(nX:bd E len hi=some j)(h1:i<=j)(h2:j<=len)
 (hk:∀v',φ h n0 z v' (j - i) ((cs.drop (i*z)).take ((j - i)*z))->(v'.len=j - i/\v'.blk=v.blk/\(v=.ns->v'=.ns))->k v' h n):SO C (.sli (.sl z) x lo hi none) E h n k:=by
 obtain⟨g1,g2⟩:=a;have hm:i*z+(j - i)*z<=len*z:=by rw[←iJ];exact gX z (by omega)
 have hlen:((cs.drop (i*z)).take ((j - i)*z)).length=(j - i)*z:=by simp;omega
 cases g2 with
 | inl g=>
  have X3:i=0:=by omega
  have hj0:j=0:=by omega
  refine gE (v:=.ns) (λ_ _ _ _=>rfl) (λT H hT hH=>?_) (hk .ns ⟨hlen,Or.inl ⟨rfl,by omega⟩⟩ ⟨by subst X3;subst hj0;rfl,by rw[g.1],λ_=>rfl⟩);have e:=hT.ge hx;have e2:=hT.bd gg;have e3:=hT.bd nX;rw[g.1]at e;rw[g.2]at e3;subst X3;subst hj0;simp only[simple,e,oq,e2,e3,zR,dX]
 | inr g=>
  obtain⟨⟨b,o,c,g3,g4⟩,row,g5,g6⟩:=g;have jT:db row (v.off+i*z) ((j - i)*z)=some ((cs.drop (i*z)).take ((j - i)*z)):=Qc g6 hm;cases g3 with
  | inl g3=>
   obtain⟨g3,g7⟩:=g3;have X4:(bif Nat.beq c i then o else Nat.add o (Nat.mul i z))=o+i*z\/j - i=0:=by
    cases hb:Nat.beq c i with
    | true=>right;have:=cL hb;omega
    | false=>left;rfl
   refine gE (v:=.sl b (bif Nat.beq c i then o else Nat.add o (Nat.mul i z)) (j - i) (c - i)) (λ_ _ _ _=>rfl) (λT H hT hH=>?_) (hk _ ⟨hlen,Or.inr ⟨⟨b,_,_,Or.inl ⟨rfl,by omega⟩,g4⟩,row,?_,?_⟩⟩ ⟨rfl,by rw[g3];rfl,λe=>by rw[g3]at e;cases e⟩)
   ·have e:=hT.ge hx;have e2:=hT.bd gg;have e3:=hT.bd nX;rw[g3]at e;have b1:Nat.ble i j=true:=jB h1;have b2:Nat.ble j c=true:=jB (by omega);have b3:Nat.ble c c=true:=jB (χ c);simp only[simple,e,oq,e2,e3,zR,b1,b2,b3,om,cond_true,dX];rfl
   ·rw[g3]at g5;exact g5
   ·rw[g3]at jT;cases X4 with
    | inl X4=>show db row (bif Nat.beq c i then o else Nat.add o (Nat.mul i z)) _=_;rw[X4];exact jT
    | inr h0=>
     have A9:=(ow g6).2;rw[h0];simp only[Nat.zero_mul,List.take_zero];show db row (bif Nat.beq c i then o else Nat.add o (Nat.mul i z)) 0=some []
     rw[g3]at A9;have ho:o<=row.length:=by have:(V.sl b o len c).off=o:=rfl;rw[this]at A9;omega
     cases hb:Nat.beq c i with
     | true=>rw[cond_true,yh (by omega)];simp
     | false=>
      have aav:=(ow jT).2;have:(V.sl b o len c).off=o:=rfl;rw[this]at aav;rw[cond_false,yh (by show o+i*z+0<=_;omega)];simp
  | inr g3=>
   refine gE (v:=.su b (o+i*z) (j - i) z) (λ_ _ _ _=>rfl) (λT H hT hH=>?_) (hk _ ⟨hlen,Or.inr ⟨⟨b,_,0,Or.inr U,g4⟩,row,?_,?_⟩⟩ ⟨rfl,by rw[g3];rfl,λe=>by rw[g3]at e;cases e⟩)
   ·have e:=hT.ge hx;have e2:=hT.bd gg;have e3:=hT.bd nX;rw[g3]at e;have b1:Nat.ble i j=true:=jB h1;have b2:Nat.ble j len=true:=jB h2;have b3:Nat.beq z z=true:=by rw[dD];simp
    simp only[simple,e,oq,e2,e3,zR,b1,b2,b3,om,cond_true,dX];rfl
   ·rw[g3]at g5;exact g5
   ·rw[g3]at jT;exact jT
theorem aaw{z:Nat}{x hi mx:ax}{v:V}{len:Nat}{cs:List V}{i1 i2:IntKind}(hx:ge E x=some v){n0:K}(a:φ h n0 z v len cs)(nX:ge E hi=some (.i i1 (len:Nat)))(xq:ge E mx=some (.i i2 (len:Nat)))
 (hk:∀v',φ h n0 z v' len cs->(v'.len=len/\v'.blk=v.blk/\(v=.ns->v'=.ns))->k v' h n):SO C (.sli (.sl z) x none (some hi) (some mx)) E h n k:=by
 obtain⟨g1,g2⟩:=a;have e2:∀{T:Tr V},Le E T->∀d,dH T d (some hi)=some len:=λhT d=>hT.bd (by simp only[bd,nX];rfl);have e3:∀{T:Tr V},Le E T->∀d,dH T d (some mx)=some len:=λhT d=>hT.bd (by simp only[bd,xq];rfl);have b3:Nat.ble len len=true:=jB (χ len);have b0:Nat.ble 0 len=true:=jB (uw len);cases g2 with
 | inl g=>
  refine gE (v:=.ns) (λ_ _ _ _=>rfl) (λT H hT hH=>?_) (hk .ns ⟨g1,Or.inl ⟨rfl,g.2⟩⟩ ⟨by rw[g.2];rfl,by rw[g.1],λ_=>rfl⟩);have e:=hT.ge hx;rw[g.1]at e;have e2:=e2 hT;have e3:=e3 hT;rw[g.2]at e2 e3;simp only[simple,e,oq,e2,e3,zR,dX]
 | inr g=>
  obtain⟨⟨b,o,c,g3,g4⟩,row,g5,g6⟩:=g;cases g3 with
  | inl g3=>
   obtain⟨g3,g7⟩:=g3;have Kl:(bif Nat.beq len 0 then o else Nat.add o (Nat.mul 0 z))=o:=by
    cases Nat.beq len 0 with
    | true=>rfl
    | false=>show o+0*z=o;omega
   refine gE (v:=.sl b o len len) (λ_ _ _ _=>rfl) (λT H hT hH=>?_) (hk _ ⟨g1,Or.inr ⟨⟨b,_,_,Or.inl ⟨rfl,by omega⟩,g4⟩,row,?_,?_⟩⟩ ⟨rfl,by rw[g3];rfl,λe=>by rw[g3]at e;cases e⟩)
   ·have e:=hT.ge hx;rw[g3]at e;have b2:Nat.ble len c=true:=jB g7;simp only[simple,e,oq,e2 hT,e3 hT,zR,b0,b2,b3,om,cond_true,dX,Kl];rfl
   ·rw[g3]at g5;exact g5
   ·rw[g3]at g6;exact g6
  | inr g3=>
   have b4:Nat.beq z z=true:=by rw[dD];simp
   by_cases hl:len=0
   ·subst hl;refine gE (v:=.su b o 0 z) (λ_ _ _ _=>rfl) (λT H hT hH=>?_) (hk _ ⟨g1,Or.inr ⟨⟨b,_,0,Or.inr U,g4⟩,row,?_,?_⟩⟩ ⟨rfl,by rw[g3],λe=>by rw[g3]at e;cases e⟩)
    ·have e:=hT.ge hx;rw[g3]at e;simp only[simple,e,oq,e2 hT,e3 hT,zR,b0,b4,om,cond_true,dX];rfl
    ·rw[g3]at g5;exact g5
    ·rw[g3]at g6;exact g6
   ·have b5:Nat.beq len 0=false:=by rw[dD];simp[hl]
    have Kl:Nat.add o (Nat.mul 0 z)=o:=by show o+0*z=o;omega
    refine gE (v:=.sl b o len len) (λ_ _ _ _=>rfl) (λT H hT hH=>?_) (hk _ ⟨g1,Or.inr ⟨⟨b,_,_,Or.inl ⟨rfl,by omega⟩,g4⟩,row,?_,?_⟩⟩ ⟨rfl,by rw[g3];rfl,λe=>by rw[g3]at e;cases e⟩)
    ·have e:=hT.ge hx;rw[g3]at e;simp only[simple,e,oq,e2 hT,e3 hT,zR,b0,b3,b4,b5,om,cond_true,cond_false,dX,Kl];rfl
    ·rw[g3]at g5;exact g5
    ·rw[g3]at g6;exact g6
theorem φ.elems{z:Nat}{v:V}{len:Nat}{cs:List V}(a:φ h n z v len cs){H:Hp}(hH:H.get=h):elems H z v=some (len,cs):=by
 obtain⟨g1,g2⟩:=a;have b4:Nat.beq z z=true:=by rw[dD];simp
 cases g2 with
 | inl g=>
  have:cs=[]:=by rw[g.2]at g1;simpa using g1
  rw[g.1,g.2,this];rfl
 | inr g=>
  obtain⟨⟨b,o,c,g3,g4⟩,row,g5,g6⟩:=g;cases g3 with
  | inl g3=>
   rw[g3.1]at g5 g6;have e:rowAt H b=some row:=by rw[PF hH];exact g5
   have e2:db row o (Nat.mul len z)=some cs:=g6;rw[g3.1];simp only[Ev.elems,e,e2]
  | inr g3=>
   rw[g3]at g5 g6;have e:rowAt H b=some row:=by rw[PF hH];exact g5
   have e2:db row o (Nat.mul len z)=some cs:=g6;rw[g3];simp only[Ev.elems,e,e2,b4,cond_true];cases hl:Nat.beq len 0 with
   | true=>
    have:len=0:=cL hl;have:cs=[]:=by rw[this]at g1;simpa using g1
    rw[this,cond_true];simp[cL hl]
   | false=>rfl
theorem room{l m bytes:Nat}(h1:(l+m)*bytes<=1000000000)(h2:bytes<=100000)(h3:l+m<=1000000000):
 (!(Nat.ble (Nat.mul (Nat.add l m) bytes) 1000000000&&Nat.ble bytes 100000&&Nat.ble (Nat.add l m) 1000000000))=false:=by
 have e1:Nat.ble (Nat.mul (Nat.add l m) bytes) 1000000000=true:=jB h1;have e2:Nat.ble bytes 100000=true:=jB h2;have e3:Nat.ble (Nat.add l m) 1000000000=true:=jB h3;rw[e1,e2,e3];rfl
theorem aax{e z bytes m:Nat}{zl new:List V}{s x:ax}{v:V}(hs:ge E s=some .ns)(hx:ge E x=some v)(a:φ h n z v m new)(h1:m*bytes<=1000000000)(h2:bytes<=100000)(h3:m<=1000000000)
 (ja:m=0->k .ns h n)(hk:0<m->k (.su n 0 m z) (hp h n (some (.c new e 0))) n.succ):SO C (.app e z bytes zl false s x) E h n k:=
 uE (λ_ _ _ _=>rfl) λT H hT hH=>by
  have hr:=room (l:=0) (m:=m) (bytes:=bytes) (by simpa using h1) h2 (by omega);have we:(!(Nat.ble (Nat.mul (Nat.add (V.len .ns) m) bytes) 1000000000&&Nat.ble bytes 100000&&Nat.ble (Nat.add (V.len .ns) m) 1000000000))=false:=hr;by_cases hm:m=0
  ·refine⟨.ns,H,n,?_,by rw[hH];exact ja hm⟩;have hb:Nat.beq m 0=true:=by rw[dD];simpa using hm
   simp only[simple,hT.ge hs,hT.ge hx,a.elems hH,cond_false,wC,we,hb,cond_true]
  ·refine⟨.su n 0 m z,H.put (some (.c new e 0)) n,n.succ,?_,by rw[jS,hH];exact hk (by omega)⟩;have hb:Nat.beq m 0=false:=by rw[dD];simpa using hm
   simp only[simple,hT.ge hs,hT.ge hx,a.elems hH,cond_false,wC,we,hb,kp]
def ig(h:Hf)(e z:Nat)(v:V)(len:Nat)(cs:List V):Prop:=
 cs.length=len*z/\((v=.ns/\len=0)\/(0<len/\∃b,v=.su b 0 len z/\h b=some (.c cs e 0)))
theorem ig.ns(h:Hf)(e z:Nat):ig h e z .ns 0 []:=⟨by simp,Or.inl ⟨rfl,rfl⟩⟩
def ig.At(v:V)(lo hi:K):Prop:=v=.ns\/(lo.num<=v.blk.num/\v.blk.num<hi.num)
theorem aay{e z bytes m len:Nat}{zl new cs:List V}{s x:ax}{o v:V}(hs:ge E s=some o)(ho:ig h e z o len cs)(hx:ge E x=some v)(a:φ h n z v m new)(h1:(len+m)*bytes<=1000000000)(h2:bytes<=100000)(h3:len+m<=1000000000)
 (hm:0<m)(gK:bE new=true)(hk:∀h',(∀b:K,b.num<n.num->(o=.ns\/b≠o.blk)->h' b=h b)->h' n=some (.c (cs++new) e 0)->k (.su n 0 (len+m) z) h' n.succ)(hn:o=.ns\/o.blk.num<n.num):SO C (.app e z bytes zl false s x) E h n k:=
 uE (λ_ _ _ _=>rfl) λT H hT hH=>by
  obtain⟨g1,g2⟩:=ho;have hb:Nat.beq m 0=false:=by rw[dD];simp;omega
  cases g2 with
  | inl g=>
   obtain⟨rfl,rfl⟩:=g;have we:(!(Nat.ble (Nat.mul (Nat.add (V.len .ns) m) bytes) 1000000000&&Nat.ble bytes 100000&&Nat.ble (Nat.add (V.len .ns) m) 1000000000))=false:=room (l:=0) (m:=m) (bytes:=bytes) (by simpa using h1) h2 (by omega);have jQ:cs=[]:=by simpa using g1
   subst jQ;refine⟨.su n 0 m z,H.put (some (.c new e 0)) n,n.succ,?_,?_⟩
   ·simp only[simple,hT.ge hs,hT.ge hx,a.elems hH,cond_false,wC,we,hb,kp]
   ·rw[jS,hH];have:=hk (hp h n (some (.c new e 0))) (λb hb _=>ox _ _ (sU (by omega))) (fR _ _ _);rw[iI]at this;exact this
  | inr g=>
   obtain⟨hl,b,rfl,g3⟩:=g;have we:(!(Nat.ble (Nat.mul (Nat.add (V.len (.su b 0 len z)) m) bytes) 1000000000&&Nat.ble bytes 100000&&Nat.ble (Nat.add (V.len (.su b 0 len z)) m) 1000000000))=false:=room (l:=len) (m:=m) (bytes:=bytes) h1 h2 h3;have jU:b.num<n.num:=by cases hn with | inl e=>cases e | inr e=>exact e
   have g4:H.get b=some (.c cs e 0):=by rw[hH];exact g3
   have b1:Nat.beq e e=true:=by rw[dD];simp
   have b2:Nat.beq z z=true:=by rw[dD];simp
   have b3:Nat.ble 0 (Nat.add 0 (Nat.mul len z))=true:=jB (uw _);have b4:db cs 0 (Nat.mul len z)=some cs:=by rw[yh (by show 0+len*z<=_;omega)];simp;show List.take (len*z) cs=cs;rw[←g1,gM]
   refine⟨.su n 0 (len+m) z,(H.put none b).put (some (.c (cs++new) e 0)) n,n.succ,?_,?_⟩
   ·simp only[simple,hT.ge hs,hT.ge hx,a.elems hH,cond_false,wC,we,hb,g4,b1,b2,b3,gK,om,cond_true,b4,kp];rfl
   ·rw[jS,jS,hH];refine hk _ (λk hk aR=>?_) (fR _ _ _);have aaz:k≠b:=by cases aR with | inl e=>cases e | inr e=>exact e
    rw[ox _ _ (sU (by omega)),ox _ _ aaz]
theorem φ.of{b:K}{o c z len:Nat}{row cs:List V}(hb:b.num<n.num)(hr:jg h b=some row)(hc:len<=c)(hl:cs.length=len*z)(hs:db row o (len*z)=some cs):φ h n z (.sl b o len c) len cs:=
 ⟨hl,Or.inr ⟨⟨b,o,c,Or.inl ⟨rfl,hc⟩,hb⟩,row,hr,hs⟩⟩
theorem rB{l:List V}{m:Nat}(h:l.length=m):db l 0 m=some l:=by rw[yh (by omega)];simp[←h]
theorem φ.whole{b:K}{e fz z len:Nat}{row:List V}(hb:b.num<n.num)(hr:h b=some (.c row e fz))(hl:row.length=len*z):φ h n z (.sl b 0 len len) len row:=
 φ.of hb (by simp[jg,hr,O.row]) (χ _) hl (rB hl)
theorem ig.sl{e z:Nat}{v:V}{len:Nat}{cs:List V}(a:ig h e z v len cs)(hn:v=.ns\/v.blk.num<n.num):φ h n z v len cs:=by
 obtain⟨g1,g2⟩:=a;refine⟨g1,g2.imp id λ⟨hl,b,e1,g3⟩=>?_⟩;subst e1;have hb:b.num<n.num:=by cases hn with | inl e=>cases e | inr e=>exact e
 exact⟨⟨b,0,0,Or.inr U,hb⟩,cs,by simp[jg,V.blk,g3,O.row],rB g1⟩
theorem ig.ext{e z:Nat}{v:V}{len:Nat}{cs:List V}(a:ig h e z v len cs){h':Hf}(he:v=.ns\/h' v.blk=h v.blk):ig h' e z v len cs:=by
 obtain⟨g1,g2⟩:=a;refine⟨g1,g2.imp id λ⟨hl,b,e1,g3⟩=>⟨hl,b,e1,?_⟩⟩;subst e1;cases he with
 | inl e=>cases e
 | inr e=>
  have:h' b=h b:=e;rw[this,g3]
end
end
end Go.Ev.X
