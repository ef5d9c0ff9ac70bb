/- A part of the proof. -/
import Derived.Calls
import Derived.Laws.Sem
import Derived.Laws.Strings
set_option linter.all false
namespace Go.Ev
def U{α:Sort _}{a:α}:a=a:=rfl
abbrev φ:=@Nat.le_refl
abbrev aW:=@decide_eq_true_eq
abbrev aK:=@Bool.and_eq_true
abbrev cg:=@decide_eq_false_iff_not
abbrev bX:=@Nat.eq_of_beq_eq_true
abbrev dH:=@List.getD_eq_getElem?_getD
abbrev eo:=@List.drop_eq_getElem_cons
abbrev fx:=@Array.getElem?_setIfInBounds
abbrev Θ:=@if_neg
abbrev df:=@List.getElem?_eq_getElem
abbrev ao:=@if_pos
abbrev ep:=@Nat.lt_of_lt_of_le
abbrev cT:=@Nat.mul_comm
abbrev dy:=@List.length_cons
abbrev fJ:=@Nat.mul_le_mul_right
abbrev fK:=@Nat.ble_eq_true_of_le
abbrev bK:=@List.getElem_mem
abbrev fL:=@List.take_succ_eq_append_getElem
abbrev eK:=@decide_eq_false
abbrev eN:=@List.take_length
abbrev jw:=@List.drop_length
abbrev lI:=@Array.getElem?_eq_getElem
abbrev gy:=@Bool.cond_eq_ite
abbrev eO:=@List.mem_cons
abbrev eu:=@Nat.le_of_lt
abbrev mB:=@Array.getElem?_eq_some_iff
abbrev kH:=@Nat.le_of_ble_eq_true
abbrev lJ:=@Array.getElem?_toList
abbrev fy:=@Nat.pow_succ
abbrev gn:=@Nat.mul_assoc
abbrev eV:=@Nat.mul_add
abbrev vI:=@Bool.false_eq_true
abbrev kI:=@List.take_of_length_le
abbrev gp:=@List.length_append
abbrev mC:=@List.getElem?_eq_some_iff
abbrev gA:=@step_lone_go
abbrev dU:=@Nat.le_trans
abbrev oo:=@List.drop_eq_nil_of_le
abbrev eW:=@Nat.zero_add
abbrev pK:=@List.getElem?_cons_succ
abbrev fM:=@Nat.add_mul
abbrev gZ:=@List.length_set
abbrev iG:=@Nat.lt_or_ge
abbrev pa:=@Nat.mul_le_mul_left
abbrev gb:=@List.drop_zero
abbrev jx:=@Nat.mul_zero
abbrev hJ:=@Nat.add_zero
abbrev j3:=@Nat.add_assoc
abbrev gB:=@List.map_cons
abbrev tT:=@Array.getD_eq_getD_getElem?
abbrev mD:=@List.take_succ_cons
abbrev lK:=@Option.some.injEq
abbrev qW:=@List.getElem?_append_left
abbrev nz:=@List.getElem_cons_zero
abbrev pL:=@Int.natCast_nonneg
abbrev jy:=@List.length_nil
abbrev iX:=@List.getElem_of_mem
abbrev oq:=@Bool.or_eq_true
abbrev ot:=@List.length_take
abbrev nD:=@List.length_eq_zero_iff
abbrev vJ:=@List.getElem?_cons_zero
abbrev iY:=@Array.ext'
abbrev qX:=@List.mem_of_mem_take
abbrev mE:=@List.all_eq_true
abbrev jz:=@Nat.mul_one
abbrev qY:=@List.getElem?_eq_none
abbrev nE:=@decide_eq_true
abbrev ou:=@Option.map_some
abbrev pM:=@Bool.eq_iff_iff
abbrev j4:=@Nat.mod_lt
abbrev qZ:=@List.length_drop
abbrev tU:=@List.getElem?_append_right
abbrev pb:=@List.getElem_cons_succ
abbrev hK:=@Bool.and_self
abbrev mF:=@Nat.sub_zero
abbrev tV:=@Nat.pos_of_ne_zero
abbrev pc:=@List.cons_append
abbrev vK:=@Nat.pow_le_pow_right
abbrev tW:=@List.range_eq_range'
abbrev lL:=@Nat.sub_self
abbrev nF:=@Nat.add_comm
abbrev ov:=@Bool.not_eq_true'
abbrev zR:=@Nat.lt_of_mul_lt_mul_right
abbrev tX:=@List.not_mem_nil
abbrev xH:=@Nat.div_lt_iff_lt_mul
abbrev xI:=@List.take_append_drop
abbrev iZ:=@List.mem_singleton
abbrev zS:=@List.getElem?_toArray
abbrev xJ:=@Bool.false_and
abbrev xK:=@List.mem_of_mem_drop
abbrev tY:=@Nat.div_add_mod
abbrev gQ:=@List.mem_append
abbrev kJ:=@List.length_map
abbrev xL:=@List.getElem_set_ne
abbrev xM:=@Bool.true_and
abbrev xN:=@Array.length_toList
abbrev xO:=@Array.getElem?_push
abbrev tZ:=@Nat.mod_eq_of_lt
abbrev ua:=@Nat.mul_le_mul
abbrev zT:=@Nat.div_div_eq_div_mul
abbrev ra:=@List.set_cons_succ
abbrev vL:=@List.getElem?_drop
abbrev pN:=@Nat.zero_le
abbrev rW:=@Nat.min_eq_left
abbrev zU:=@List.mem_append_right
abbrev vM:=@List.getElem_set_self
abbrev xP:=@Nat.lt_trichotomy
abbrev pO:=@List.append_assoc
abbrev vN:=@Array.size_append
abbrev Ds:=@Nat.mul_lt_mul_of_pos_left
abbrev zV:=@Bool.or_eq_false_iff
abbrev xQ:=@Option.bind_some
abbrev vO:=@List.ext_getElem
abbrev nG:=@Bool.not_eq_true
abbrev ub:=@List.replicate_succ
abbrev xR:=@List.drop_succ_cons
abbrev zW:=@Option.isSome_iff_exists
abbrev rX:=@Nat.succ_mul
end Go.Ev
namespace Go.Ev
open Go
inductive K where
 | h
 | o (p:K)
 | i (p:K)
 deriving Inhabited
inductive V where
 | b (x:Bool)
 | i (k:IntKind) (n:Int)
 | s (l n:Nat)
 | np
 | p (b:K) (o:Nat)
 | ns
 | sl (b:K) (o l c:Nat)
 | su (b:K) (o l e:Nat)
 | nm
 | m (b:K)
 | nf
 | f (f:Nat) (a c:List V)
 | y (l:K)
 | ni
 | jM (t:Nat) (v:V)
 | a (l:List V)
 | u (l:List V)
 | q
 deriving Inhabited
inductive au where
 | t (n:K)
 | c (v:V)
 deriving Inhabited
inductive EK where
 | bool | int | str | ptr | slice | map | func | iface
 deriving Inhabited
inductive dE where
 | one (k:EK)
 | agg (l:List (Nat×EK))
 deriving Inhabited
inductive LA where
 | toInt (k:IntKind)
 | same
 | xm
 | Gz (e:Nat)
 | yX
 | FH
 | FI (u:Nat)
 deriving Inhabited
inductive VC where
 | str
 | sl (esz:Nat)
 | arr (n esz:Nat)
 deriving Inhabited
inductive A where
 | mv (x:au)
 | pick (c a b:au)
 | new (e:Nat) (zs:List V)
 | Dt (e:Nat) (x y:V)
 | LB (x:au)
 | zX (u:Nat) (p l:au)
 | box (e:Nat) (x:au)
 | bld (zs:List V) (ps:List (Nat×Nat×au))
 | bsl (e:Nat) (zs:List V) (len:Nat) (ps:List (Nat×Nat×au))
 | ld (agg:Bool) (sz:Nat) (a:au)
 | st (sz:Nat) (a x:au)
 | nck (x:au)
 | bin (op:BinOp) (k:dE) (x y:au)
 | un (op:UnOp) (x:au)
 | cv (k:LA) (x:au)
 | mif (t:Nat) (x:au)
 | mfn (f:Nat) (a c:List au)
 | mmap
 | msl (e esz bytes:Nat) (z:List V) (l c:au)
 | sli (k:VC) (x:au) (lo hi mx:Option au)
 | fad (off:Nat) (x:au)
 | fld (agg:Bool) (off sz:Nat) (x:au)
 | iad (arr:Option Nat) (esz:Nat) (x i:au)
 | idx (arr:Option (Nat×Nat×Bool)) (x i:au)
 | lkp (q:dE) (z:V) (ok:Bool) (m k:au)
 | LC (q:dE) (m k v:au)
 | GB (Nj:Bool) (x:au)
 | GC (str:Bool) (x:au)
 | VD (x:au)
 | tas (t:Nat) (z:V) (ok:Bool) (x:au)
 | ext (x:au) (n:Nat)
 | app (e esz bytes:Nat) (z:List V) (ue:Bool) (s x:au)
 | xn (esz:Nat) (d x:au)
 | len (k:Nat) (x:au)
 | cap (arr:Option Nat) (x:au)
 | mm (mx:Bool) (l:List au)
 | FJ (z:List V) (x:au)
 | lj (f:au) (l:List au)
 | rY (x:au)
 | bad
 deriving Inhabited
structure AO where
 dst:Option K
 op:A
 guard:Option (K×Bool)
 Ξ:Nat
 deriving Inhabited
inductive AC where
 | skip
 | reg (l:List AO)
 | regd (l:List AO)
 | seq (a b:AC)
 | cond (c:au) (a b:AC)
 | block (id:Nat) (c:AC)
 | loop (c:AC)
 | ox (f:au) (ps:List K) (bY body:AC)
 | exit (id:Nat)
 | scope (c:AC)
 | nH (d:Option K) (x:au) (l:List AO) (c:AC) (ws:List K)
 | ret
 | bad
 deriving Inhabited
inductive AR where
 | t (n:K)
 | cell (a:K) (agg:Bool) (sz:Nat)
 deriving Inhabited
structure AF where
 iH:List K
 res:List AR
 body:AC
 deriving Inhabited
structure xS where
 iH:List K
 res:List AR
 pre:List AO
 GD:K
 g:Nat
 fQ:List au
 body:AC
 GF:List K
 GG:K
 GH:AC
 deriving Inhabited
inductive Ex where
 | normal
 | exit (id:Nat)
 | ret
 | panic (v:V)
 deriving Inhabited
inductive Tr(α:Type) where
 | e
 | n (v:Option α) (l r:Tr α)
 deriving Inhabited
def Tr.get{α:Type}:Tr α->K->Option α
 | .e,_=>none
 | .n v _ _,.h=>v
 | .n _ l _,.o p=>l.get p
 | .n _ _ r,.i p=>r.get p
def Tr.vP{α:Type}(v:Option α):K->Tr α
 | .h=>.n v .e .e
 | .o p=>.n none (Tr.vP v p) .e
 | .i p=>.n none .e (Tr.vP v p)
def Tr.put{α:Type}(v:Option α):Tr α->K->Tr α
 | .e,k=>Tr.vP v k
 | .n _ l r,.h=>.n v l r
 | .n w l r,.o p=>.n w (Tr.put v l p) r
 | .n w l r,.i p=>.n w l (Tr.put v r p)
inductive O where
 | c (l:List V) (e fz:Nat)
 | r (l:List V)
 | b (x y:V) (e:Nat)
 | mp (es:List (V×V×Nat)) (c:Nat)
 | mi (b:K) (c:Nat)
 | me (m:K) (c t:Nat)
 | it (l n pos:Nat)
 | lp (ready:Bool) (fA:Ex) (T:Tr V) (ps:List K) (bY body:AC)
 deriving Inhabited
def K.succ:K->K
 | .h=>.o .h
 | .o p=>.i p
 | .i p=>.o p.succ
abbrev Hp:=Tr O
structure TE where
 args:List V
 n:K
 bM:Hp
 v:V
 add:Hp
 n':K
 deriving Inhabited
inductive Pm where
 | rZ | same
 | iV (l:List TE)
 | zY (bM:Hp) (v:V)
 deriving Inhabited
inductive aI where
 | go (f:AF)
 | pm (p:Pm)
 | vQ (f:xS)
 deriving Inhabited
abbrev fo:=Option (V×Hp×K)
def nth{α:Type}:List α->Nat->Option α
 | [],_=>none
 | a::_,0=>some a
 | _::l,n+1=>nth l n
def takeN{α:Type}:Nat->List α->Option (List α)
 | 0,_=>some []
 | _+1,[]=>none
 | n+1,a::l=>match takeN n l with | some l'=>some (a::l') | none=>none
def lM{α:Type}:Nat->List α->Option (List α)
 | 0,l=>some l
 | _+1,[]=>none
 | n+1,_::l=>lM n l
def over{α:Type}:List α->List α->Option (List α)
 | [],l=>some l
 | _::_,[]=>none
 | v::vs,_::l=>match over vs l with | some l'=>some (v::l') | none=>none
def cL{α:Type}(vs:List α):List α->Nat->Option (List α)
 | l,0=>over vs l
 | [],_+1=>none
 | a::l,n+1=>match cL vs l n with | some l'=>some (a::l') | none=>none
def ch{α:Type}(l:List α)(o n:Nat):Option (List α):=
 match lM o l with
 | some l'=>takeN n l'
 | none=>none
def V.cells:V->List V
 | .a l=>l
 | v=>[v]
def V.one:V->Bool
 | .a _ | .u _ | .q=>false
 | _=>true
def K.beq:K->K->Bool
 | .h,.h=>true
 | .o a,.o b=>a.beq b
 | .i a,.i b=>a.beq b
 | _,_=>false
def kn:IntKind->Nat
 | .i8=>0 | .i16=>1 | .i32=>2 | .i64=>3 | .u8=>4 | .u16=>5 | .u32=>6 | .u64=>7
def fits:IntKind->Int->Bool
 | .i64,.ofNat n=>Nat.ble n 9223372036854775807
 | .i64,.negSucc n=>Nat.ble n 9223372036854775807
 | .u8,.ofNat n=>Nat.ble n 255
 | .i32,.ofNat n=>Nat.ble n 2147483647
 | .i32,.negSucc n=>Nat.ble n 2147483647
 | .u32,.ofNat n=>Nat.ble n 4294967295
 | .u64,.ofNat n=>Nat.ble n 18446744073709551615
 | .u16,.ofNat n=>Nat.ble n 65535
 | _,_=>false
def wr(k:IntKind)(n:Int):Int:=bif fits k n then n else k.wrap n
def pG:Int->Int->Bool
 | .ofNat a,.ofNat b=>Nat.beq a b
 | .negSucc a,.negSucc b=>Nat.beq a b
 | _,_=>false
def tG:Int->Int->Bool
 | .ofNat a,.ofNat b=>Nat.blt a b
 | .negSucc a,.negSucc b=>Nat.blt b a
 | .negSucc _,.ofNat _=>true
 | .ofNat _,.negSucc _=>false
def zZ(a b:Int):Bool:=!(tG b a)
def mG(op:BinOp)(k:IntKind)(x y:Int):Option V:=
 match op with
 | .add=>some (.i k (wr k (Int.add x y)))
 | .sub=>some (.i k (wr k (Int.sub x y)))
 | .mul=>some (.i k (wr k (Int.mul x y)))
 | .quo=>bif pG y 0 then none else some (.i k (wr k (Int.tdiv x y)))
 | .rem=>bif pG y 0 then none else some (.i k (Int.tmod x y))
 | .and=>some (.i k (wr k (Int.ofNat (BitVec.ofInt k.bits x &&& BitVec.ofInt k.bits y).toNat)))
 | .or=>some (.i k (wr k (Int.ofNat (BitVec.ofInt k.bits x ||| BitVec.ofInt k.bits y).toNat)))
 | .xor=>some (.i k (wr k (Int.ofNat (BitVec.ofInt k.bits x ^^^ BitVec.ofInt k.bits y).toNat)))
 | .andNot=>some (.i k (wr k (Int.ofNat (BitVec.ofInt k.bits x &&& ~~~BitVec.ofInt k.bits y).toNat)))
 | .eql=>some (.b (pG x y))
 | .neq=>some (.b (!(pG x y)))
 | .lss=>some (.b (tG x y))
 | .leq=>some (.b (zZ x y))
 | .gtr=>some (.b (tG y x))
 | .geq=>some (.b (zZ y x))
 | _=>none
def GI(op:BinOp)(k:IntKind)(x y:Int):Option V:=
 match y with
 | .negSucc _=>none
 | .ofNat m=>
  let n:=bif Nat.ble m k.bits then m else k.bits
  match op with
  | .shl=>some (.i k (wr k (Int.mul x (Int.ofNat (Nat.pow 2 n)))))
  | .shr=>some (.i k (Int.fdiv x (Int.ofNat (Nat.pow 2 n))))
  | _=>none
def slt:Nat->Nat->Nat->Nat->Bool
 | 0,_,l',_=>!(Nat.beq l' 0)
 | _+1,_,0,_=>false
 | l+1,n,l'+1,n'=>bif Nat.blt (Nat.mod n 256) (Nat.mod n' 256) then true
  else bif Nat.beq (Nat.mod n 256) (Nat.mod n' 256) then slt l (Nat.div n 256) l' (Nat.div n' 256) else false
def Du(op:BinOp)(l n l' n':Nat):Option V:=
 match op with
 | .add=>bif Nat.ble (Nat.add l l') 9223372036854775807 then some (.s (Nat.add l l') (Nat.add n (Nat.mul n' (Nat.pow 256 l)))) else none
 | .eql=>some (.b (Nat.beq l l'&&Nat.beq n n'))
 | .neq=>some (.b (!(Nat.beq l l'&&Nat.beq n n')))
 | .lss=>some (.b (slt l n l' n'))
 | .leq=>some (.b (slt l n l' n'||(Nat.beq l l'&&Nat.beq n n')))
 | .gtr=>some (.b (!(slt l n l' n'||(Nat.beq l l'&&Nat.beq n n'))))
 | .geq=>some (.b (!(slt l n l' n')))
 | _=>none
def FK(n i:Nat):Nat:=Nat.mod (Nat.div n (Nat.pow 256 i)) 256
def Aa(n a b:Nat):Nat:=Nat.mod (Nat.div n (Nat.pow 256 a)) (Nat.pow 256 (Nat.sub b a))
def xT:Nat->Nat->List V
 | 0,_=>[]
 | l+1,n=>.i .u8 (Int.ofNat (Nat.mod n 256))::xT l (Nat.div n 256)
def ofBytes:List V->Option Nat
 | []=>some 0
 | .i .u8 (.ofNat b)::l=>match ofBytes l with
  | some n=>bif Nat.blt b 256 then some (Nat.add b (Nat.mul 256 n)) else none
  | none=>none
 | _::_=>none
def cH:EK->V->V->Option Bool
 | .bool,.b x,.b y=>some (x==y)
 | .int,.i k x,.i k' y=>bif Nat.beq (kn k) (kn k') then some (pG x y) else none
 | .str,.s l n,.s l' n'=>some (Nat.beq l l'&&Nat.beq n n')
 | .ptr,.np,.np=>some true
 | .ptr,.np,.p _ _=>some false
 | .ptr,.p _ _,.np=>some false
 | .ptr,.p b o,.p b' o'=>bif K.beq b b' then some (Nat.beq o o') else none
 | .slice,.ns,.ns=>some true
 | .slice,.ns,.sl _ _ _ _=>some false
 | .slice,.ns,.su _ _ _ _=>some false
 | .slice,.sl _ _ _ _,.ns=>some false
 | .slice,.su _ _ _ _,.ns=>some false
 | .map,.nm,.nm=>some true
 | .map,.nm,.m _=>some false
 | .map,.m _,.nm=>some false
 | .func,.nf,.nf=>some true
 | .func,.nf,.f _ _ _=>some false
 | .func,.f _ _ _,.nf=>some false
 | .iface,.ni,.jM _ _=>some false
 | .iface,.jM _ _,.ni=>some false
 | .iface,.ni,.ni=>some true
 | _,_,_=>none
def yY(xs ys:List V):List (Nat×EK)->Option Bool
 | []=>some true
 | (i,q)::l=>match nth xs i,nth ys i with
  | some x,some y=>match cH q x y with
   | some true=>yY xs ys l
   | some false=>some false
   | none=>none
  | _,_=>none
def lu(k:dE)(x y:V):Option Bool:=
 match k with
 | .one q=>cH q x y
 | .agg l=>match x,y with
  | .a xs,.a ys=>yY xs ys l
  | _,_=>none
def j5(op:BinOp)(k:dE)(x y:V):Option V:=
 match op,x,y with
 | .shl,.i k a,.i _ b=>GI .shl k a b
 | .shr,.i k a,.i _ b=>GI .shr k a b
 | op,.i k a,.i k' b=>bif Nat.beq (kn k) (kn k') then mG op k a b else none
 | op,.s l n,.s l' n'=>Du op l n l' n'
 | .eql,x,y=>match lu k x y with | some b=>some (.b b) | none=>none
 | .neq,x,y=>match lu k x y with | some b=>some (.b (!b)) | none=>none
 | _,_,_=>none
def GJ(op:UnOp)(x:V):Option V:=
 match op,x with
 | .neg,.i k n=>some (.i k (wr k (Int.sub 0 n)))
 | .not,.b b=>some (.b (!b))
 | .xor,.i k n=>mG .xor k (if k.signed then -1 else k.max) n
 | _,_=>none
def O.row:O->Option (List V)
 | .c l _ _=>some l
 | .r l=>some l
 | .b x y _=>some [x,y]
 | _=>none
def rowAt(H:Hp)(b:K):Option (List V):=
 match H.get b with
 | some o=>o.row
 | none=>none
def rO(H:Hp)(agg:Bool)(sz:Nat):V->Option V
 | .p b o=>match rowAt H b with
  | some l=>bif agg then (match ch l o sz with | some l'=>some (.a l') | none=>none) else nth l o
  | none=>none
 | _=>none
def aD:List V->Bool
 | []=>true
 | v::l=>v.one&&aD l
def fB(H:Hp)(b:K)(o:Nat)(vs:List V):Option Hp:=
 match H.get b with
 | some (.c l e fz)=>bif Nat.ble fz o&&aD vs then
  (match cL vs l o with | some l'=>some (H.put (some (.c l' e fz)) b) | none=>none) else none
 | some (.b x y e)=>bif aD vs then
  (match cL vs [x,y] o with | some [a,d]=>some (H.put (some (.b a d e)) b) | _=>none) else none
 | _=>none
def yZ(H:Hp)(sz:Nat)(a x:V):Option Hp:=
 match a with
 | .p b o=>bif Nat.beq x.cells.length sz then fB H b o x.cells else none
 | _=>none
def js(H:Hp)(n:K)(o:O)(v:V):fo:=some (v,H.put (some o) n,n.succ)
def az(T:Tr V):au->Option V
 | .t k=>T.get k
 | .c v=>some v
def eE(T:Tr V):List au->Option (List V)
 | []=>some []
 | x::l=>match az T x,eE T l with
  | some v,some vs=>some (v::vs)
  | _,_=>none
def pd(T:Tr V)(zs:List V):List (Nat×Nat×au)->Option (List V)
 | []=>some zs
 | (o,sz,x)::ps=>match az T x with
  | some v=>bif Nat.beq v.cells.length sz&&aD v.cells then (match cL v.cells zs o with | some a=>pd T a ps | none=>none) else none
  | none=>none
def dL(z:List V):Nat->List V
 | 0=>[]
 | n+1=>z++dL z n
def GK:V->Option Nat
 | .i _ (.ofNat n)=>some n
 | _=>none
def cM(T:Tr V)(d:Nat):Option au->Option Nat
 | none=>some d
 | some x=>match az T x with | some v=>GK v | none=>none
def ly(k:VC)(T:Tr V)(x:V)(lo hi mx:Option au):Option V:=
 match k,x with
 | .str,.s l n=>match cM T 0 lo,cM T l hi,mx with
  | some a,some b,none=>bif Nat.ble a b&&Nat.ble b l then some (.s (Nat.sub b a) (Aa n a b)) else none
  | _,_,_=>none
 | .sl _,.ns=>match cM T 0 lo,cM T 0 hi,cM T 0 mx with
  | some 0,some 0,some 0=>some .ns
  | _,_,_=>none
 | .sl z,.sl b o l c=>match cM T 0 lo,cM T l hi,cM T c mx with
  | some p,some q,some m=>bif Nat.ble p q&&Nat.ble q m&&Nat.ble m c then
   some (.sl b (bif Nat.beq m p then o else Nat.add o (Nat.mul p z)) (Nat.sub q p) (Nat.sub m p)) else none
  | _,_,_=>none
 | .sl z,.su b o l e=>match mx with
  | none=>match cM T 0 lo,cM T l hi with
   | some p,some q=>bif Nat.ble p q&&Nat.ble q l&&Nat.beq z e then some (.su b (Nat.add o (Nat.mul p z)) (Nat.sub q p) e) else none
   | _,_=>none
  | some m=>match cM T 0 lo,cM T l hi,cM T 0 (some m) with
   | some p,some q,some m=>bif Nat.ble p q&&Nat.ble q m&&Nat.ble m l&&Nat.beq z e then
    bif Nat.beq l 0 then some (.su b o 0 e) else some (.sl b (bif Nat.beq m p then o else Nat.add o (Nat.mul p z)) (Nat.sub q p) (Nat.sub m p)) else none
   | _,_,_=>none
 | .arr n z,.p b o=>match cM T 0 lo,cM T n hi,cM T n mx with
  | some p,some q,some m=>bif Nat.ble p q&&Nat.ble q m&&Nat.ble m n then
   some (.sl b (bif Nat.beq m p then o else Nat.add o (Nat.mul p z)) (Nat.sub q p) (Nat.sub m p)) else none
  | _,_,_=>none
 | _,_=>none
def elems(H:Hp)(z:Nat):V->Option (Nat×List V)
 | .ns=>some (0,[])
 | .sl b o l _=>match rowAt H b with
  | some r=>match ch r o (Nat.mul l z) with | some vs=>some (l,vs) | none=>none
  | none=>none
 | .su b o l e=>bif Nat.beq e z then (bif Nat.beq l 0 then some (0,[]) else match rowAt H b with
  | some r=>match ch r o (Nat.mul l z) with | some vs=>some (l,vs) | none=>none
  | none=>none) else none
 | .s l n=>bif Nat.beq z 1 then some (l,xT l n) else none
 | _=>none
def V.len:V->Nat
 | .sl _ _ l _ | .su _ _ l _=>l
 | _=>0
def r7(H:Hp)(n:K)(e z bytes:Nat)(s:V)(m:Nat)(new:List V):fo:=
 bif !(Nat.ble (Nat.mul (Nat.add s.len m) bytes) 1000000000&&Nat.ble bytes 100000&&Nat.ble (Nat.add s.len m) 1000000000) then none else
 match s with
 | .ns=>bif Nat.beq m 0 then some (.ns,H,n) else js H n (.c new e 0) (.su n 0 m z)
 | .sl b o l c=>
  bif Nat.ble (Nat.add l m) c then
   (bif Nat.beq m 0 then some (.sl b o l c,H,n) else match fB H b (Nat.add o (Nat.mul l z)) new with | some H'=>some (.sl b o (Nat.add l m) c,H',n) | none=>none)
  else match elems H z (.sl b o l c) with
   | some (_,bu)=>js H n (.c (bu++new) e 0) (.su n 0 (Nat.add l m) z)
   | none=>none
 | .su b o l a=>
  bif Nat.beq m 0 then some (.su b o l a,H,n) else
  match H.get b with
  | some (.c r d fz)=>bif Nat.beq e d&&Nat.beq z a&&Nat.ble fz (Nat.add o (Nat.mul l z))&&aD new then
   (match ch r o (Nat.mul l z) with
   | some bu=>js (H.put none b) n (.c (bu++new) e (Nat.sub fz o)) (.su n 0 (Nat.add l m) z)
   | none=>none) else none
  | _=>none
 | _=>none
def xU(q:dE)(k:V):List (V×V×Nat)->Option (Option V)
 | []=>some none
 | (k',v,_)::es=>match lu q k k' with
  | some true=>some (some v)
  | some false=>xU q k es
  | none=>none
def Dw(t:Nat):List (V×V×Nat)->Option (V×V)
 | []=>none
 | (k,v,t')::es=>bif Nat.beq t' t then some (k,v) else Dw t es
def Ab(q:dE)(k v:V)(c:Nat):List (V×V×Nat)->Option (List (V×V×Nat)×Bool)
 | []=>some ([(k,v,c)],true)
 | (k',v',t)::es=>match lu q k k' with
  | some true=>match q with | .one _=>some ((k,v,t)::es,false) | .agg _=>none
  | some false=>match Ab q k v c es with | some (a,b)=>some ((k',v',t)::a,b) | none=>none
  | none=>none
def hasAll(xs:List V):List (Nat×EK)->Bool
 | []=>true
 | (i,_)::l=>(match nth xs i with | some _=>true | none=>false)&&hasAll xs l
def pP:dE->V->Bool
 | .one _,_=>true
 | .agg l,.a xs=>hasAll xs l
 | _,_=>false
def cW(H:Hp)(n:K):Option V->fo
 | some v=>some (v,H,n)
 | none=>none
def oy(n:K):Option Hp->fo
 | some H=>some (.u [],H,n)
 | none=>none
def LF(mx:Bool):V->V->Option V
 | .i k x,.i _ y=>some (.i k (bif (bif mx then tG x y else tG y x) then y else x))
 | _,_=>none
def xV(f:V->V->Option V)(a:V):List V->Option V
 | []=>some a
 | v::l=>match f a v with | some a'=>xV f a' l | none=>none
def rune(l n:Nat):Nat×Nat:=
 let a:=Nat.mod n 256;let b1:=Nat.mod (Nat.div n 256) 256;let b2:=Nat.mod (Nat.div n 65536) 256;let b3:=Nat.mod (Nat.div n 16777216) 256
 bif Nat.blt a 128 then (a,1)
 else bif Nat.beq (Nat.div a 32) 6&&(Nat.blt 1 l&&Nat.beq (Nat.div b1 64) 2) then
  let c:=(a % 32)*64+b1 % 64
  bif Nat.ble 128 c then (c,2) else (65533,1)
 else bif Nat.beq (Nat.div a 16) 14&&(Nat.blt 1 l&&Nat.beq (Nat.div b1 64) 2)&&(Nat.blt 2 l&&Nat.beq (Nat.div b2 64) 2) then
  let c:=(a % 16)*4096+(b1 % 64)*64+b2 % 64
  bif Nat.ble 2048 c&&(Nat.blt c 55296||(Nat.ble 57344 c&&Nat.ble c 1114111)) then (c,3) else (65533,1)
 else bif Nat.beq (Nat.div a 8) 30&&(Nat.blt 1 l&&Nat.beq (Nat.div b1 64) 2)&&(Nat.blt 2 l&&Nat.beq (Nat.div b2 64) 2)&&(Nat.blt 3 l&&Nat.beq (Nat.div b3 64) 2) then
  let c:=(a % 8)*262144+(b1 % 64)*4096+(b2 % 64)*64+b3 % 64
  bif Nat.ble 65536 c&&Nat.ble c 1114111 then (c,4) else (65533,1)
 else (65533,1)
def r8:Nat->Nat->Nat->List V
 | 0,_,_=>[]
 | f+1,l,n=>bif Nat.beq l 0 then [] else
  let r:=rune l n
  .i .i32 (Int.ofNat r.1)::r8 f (Nat.sub l r.2) (Nat.div n (Nat.pow 256 r.2))
def pQ(m:Nat):Bool:=Nat.blt m 55296||(Nat.ble 57344 m&&Nat.ble m 1114111)
def nI(m:Nat):Nat:=bif Nat.blt m 128 then 1 else bif Nat.blt m 2048 then 2 else bif Nat.blt m 65536 then 3 else 4
def pR(m:Nat):Nat:=
 bif Nat.blt m 128 then m
 else bif Nat.blt m 2048 then (192+m / 64)+256*(128+m % 64)
 else bif Nat.blt m 65536 then (224+m / 4096)+256*((128+m / 64 % 64)+256*(128+m % 64))
 else (240+m / 262144)+256*((128+m / 4096 % 64)+256*((128+m / 64 % 64)+256*(128+m % 64)))
def oS(H:Hp)(n:K)(k:LA)(x:V):fo:=
 match k,x with
 | .toInt k,.i _ m=>some (.i k (wr k m),H,n)
 | .same,.s l m=>some (.s l m,H,n)
 | .xm,.s _ _=>none
 | .xm,x=>match elems H 1 x with
  | some (l,vs)=>match ofBytes vs with | some m=>some (.s l m,H,n) | none=>none
  | none=>none
 | .Gz e,.s l m=>let rs:=r8 l l m;js H n (.c rs e 0) (.su n 0 rs.length 1)
 | .yX,.i _ (.ofNat m)=>bif pQ m then some (.s (nI m) (pR m),H,n) else none
 | .FH,.np=>some (.np,H,n)
 | .FH,.p b 0=>match H.get b with | some (.b _ _ _)=>some (.p b 0,H,n) | _=>none
 | .FI _,.np=>some (.np,H,n)
 | .FI u,.p b 0=>match H.get b with | some (.b _ _ e)=>(bif Nat.beq e u then some (.p b 0,H,n) else none) | _=>none
 | _,_=>none
def vS(ok:Bool)(v:V)(b:Bool):V:=bif ok then .u [v,.b b] else v
def simple(op:A)(T:Tr V)(H:Hp)(n:K):fo:=
 match op with
 | .mv x=>cW H n (az T x)
 | .pick c a b=>match az T c with
  | some (.b x)=>cW H n (az T (bif x then a else b))
  | _=>none
 | .new e zs=>js H n (.c zs e 0) (.p n 0)
 | .Dt e x y=>js H n (.b x y e) (.p n 0)
 | .LB x=>match az T x with
  | some .ns=>some (.np,H,n)
  | some (.sl b o _ c)=>bif Nat.beq c 0 then none else some (.p b o,H,n)
  | some (.su b o l _)=>bif Nat.beq l 0 then none else some (.p b o,H,n)
  | _=>none
 | .zX u p l=>match az T p,az T l with
  | some .np,some (.i _ (.ofNat 0))=>some (.s 0 0,H,n)
  | some (.p b o),some (.i _ (.ofNat m))=>bif Nat.beq m 0 then some (.s 0 0,H,n) else match H.get b with
   | some (.c r e fz)=>bif Nat.beq e u&&Nat.ble m 9223372036854775807 then (match ch r o m with
    | some vs=>match ofBytes vs with
     | some q=>some (.s m q,H.put (some (.c r e (bif Nat.ble fz (Nat.add o m) then Nat.add o m else fz))) b,n)
     | none=>none
    | none=>none) else none
   | _=>none
  | _,_=>none
 | .box e x=>match az T x with
  | some v=>bif aD v.cells then js H n (.c v.cells e 0) (.p n 0) else none
  | none=>none
 | .bld zs ps=>match pd T zs ps with | some l=>some (.a l,H,n) | none=>none
 | .bsl e zs len ps=>match pd T zs ps with | some l=>js H n (.c l e 0) (.sl n 0 len len) | none=>none
 | .ld agg sz a=>match az T a with | some v=>cW H n (rO H agg sz v) | none=>none
 | .st sz a x=>match az T a,az T x with
  | some a,some x=>oy n (yZ H sz a x)
  | _,_=>none
 | .nck x=>match az T x with
  | some (.p b o)=>some (.p b o,H,n)
  | some (.f g a c)=>some (.f g a c,H,n)
  | some (.y l)=>some (.y l,H,n)
  | _=>none
 | .bin op k x y=>match az T x,az T y with
  | some x,some y=>cW H n (j5 op k x y)
  | _,_=>none
 | .un op x=>match az T x with | some v=>cW H n (GJ op v) | none=>none
 | .cv k x=>match az T x with | some v=>oS H n k v | none=>none
 | .mif t x=>match az T x with | some v=>some (.jM t v,H,n) | none=>none
 | .mfn f a c=>match eE T a,eE T c with
  | some a,some c=>some (.f f a c,H,n)
  | _,_=>none
 | .mmap=>js H n (.mp [] 0) (.m n)
 | .msl e _ bytes z l c=>match az T l,az T c with
  | some (.i _ (.ofNat l)),some (.i _ (.ofNat c))=>bif Nat.ble l c&&Nat.ble (Nat.mul c bytes) 140737488355328&&Nat.ble c 9223372036854775807 then js H n (.c (dL z c) e 0) (.sl n 0 l c) else none
  | _,_=>none
 | .sli k x lo hi mx=>match az T x with | some v=>cW H n (ly k T v lo hi mx) | none=>none
 | .fad off x=>match az T x with | some (.p b o)=>some (.p b (Nat.add o off),H,n) | _=>none
 | .fld agg off sz x=>match az T x with
  | some (.a l)=>bif agg then (match ch l off sz with | some l'=>some (.a l',H,n) | none=>none) else cW H n (nth l off)
  | _=>none
 | .iad arr z x i=>match az T x,az T i with
  | some x,some (.i _ (.ofNat i))=>match arr,x with
   | some m,.p b o=>bif Nat.blt i m then some (.p b (Nat.add o (Nat.mul i z)),H,n) else none
   | none,.sl b o l _=>bif Nat.blt i l then some (.p b (Nat.add o (Nat.mul i z)),H,n) else none
   | none,.su b o l _=>bif Nat.blt i l then some (.p b (Nat.add o (Nat.mul i z)),H,n) else none
   | _,_=>none
  | _,_=>none
 | .idx arr x i=>match az T x,az T i with
  | some x,some (.i _ (.ofNat i))=>match arr,x with
   | none,.s l m=>bif Nat.blt i l then some (.i .u8 (Int.ofNat (FK m i)),H,n) else none
   | some (m,z,agg),.a l=>bif Nat.blt i m then
    (bif agg then (match ch l (Nat.mul i z) z with | some l'=>some (.a l',H,n) | none=>none) else cW H n (nth l (Nat.mul i z))) else none
   | _,_=>none
  | _,_=>none
 | .lkp q z ok m k=>match az T m,az T k with
  | some .nm,some k=>bif pP q k then some (vS ok z false,H,n) else none
  | some (.m b),some k=>bif pP q k then (match H.get b with
   | some (.mp es _)=>match xU q k es with
    | some (some v)=>some (vS ok v true,H,n)
    | some none=>some (vS ok z false,H,n)
    | none=>none
   | _=>none) else none
  | _,_=>none
 | .LC q m k v=>match az T m,az T k,az T v with
  | some (.m b),some k,some v=>bif pP q k then (match H.get b with
   | some (.mp es c)=>match Ab q k v c es with | some (j,new)=>some (.u [],H.put (some (.mp j (bif new then Nat.succ c else c))) b,n) | none=>none
   | _=>none) else none
  | _,_,_=>none
 | .GB Nj x=>match Nj,az T x with
  | false,some (.s l m)=>js H n (.it l m 0) (.p n 0)
  | true,some (.m b)=>match H.get b with
   | some (.mp _ c)=>js H n (.mi b c) (.p n 0)
   | _=>none
  | _,_=>none
 | .GC str x=>match str,az T x with
  | true,some (.p b 0)=>match H.get b with
   | some (.it l m pos)=>bif Nat.blt pos l then
    (let r:=rune (Nat.sub l pos) (Nat.div m (Nat.pow 256 pos))
     some (.u [.b true,.i .i64 (Int.ofNat pos),.i .i32 (Int.ofNat r.1)],H.put (some (.it l m (Nat.add pos r.2))) b,n))
    else some (.u [.b false],H,n)
   | _=>none
  | _,_=>none
 | .VD x=>match az T x with
  | some (.p b 0)=>match H.get b with
   | some (.me m c t)=>match H.get m with
    | some (.mp es c')=>bif Nat.beq c c' then (match Dw t es with | some (k,v)=>some (.u [k,v],H,n) | none=>none) else none
    | _=>none
   | _=>none
  | _=>none
 | .tas t z ok x=>match az T x with
  | some .ni=>bif ok then some (.u [z,.b false],H,n) else none
  | some (.jM t' v)=>bif Nat.beq t t' then some (vS ok v true,H,n) else bif ok then some (.u [z,.b false],H,n) else none
  | _=>none
 | .ext x i=>match az T x with | some (.u l)=>cW H n (nth l i) | _=>none
 | .app e z bytes w ue s x=>match az T s,az T x with
  | some s,some x=>bif ue then (match x with | .i _ (.ofNat m)=>r7 H n e z bytes s m (dL w m) | _=>none)
   else (match elems H z x with | some (m,new)=>r7 H n e z bytes s m new | none=>none)
  | _,_=>none
 | .xn z d x=>match az T d,az T x with
  | some (.s _ _),_=>none
  | some d,some x=>match elems H z d,elems H z x with
   | some (ld,_),some (h,vs)=>
    let m:=bif Nat.ble h ld then h else ld
    bif Nat.beq m 0 then some (.i .i64 0,H,n) else
    match takeN (Nat.mul m z) vs,d with
    | some vs,.sl b o _ _=>match fB H b o vs with | some H=>some (.i .i64 (Int.ofNat m),H,n) | none=>none
    | some vs,.su b o _ _=>match fB H b o vs with | some H=>some (.i .i64 (Int.ofNat m),H,n) | none=>none
    | _,_=>none
   | _,_=>none
  | _,_=>none
 | .len k x=>match k,az T x with
  | 0,some (.s l _)=>some (.i .i64 (Int.ofNat l),H,n)
  | 1,some .ns=>some (.i .i64 0,H,n)
  | 1,some (.sl _ _ l _)=>some (.i .i64 (Int.ofNat l),H,n)
  | 1,some (.su _ _ l _)=>some (.i .i64 (Int.ofNat l),H,n)
  | 2,some .nm=>some (.i .i64 0,H,n)
  | 2,some (.m b)=>match H.get b with | some (.mp es _)=>some (.i .i64 (Int.ofNat es.length),H,n) | _=>none
  | _,_=>none
 | .cap arr x=>match arr with
  | some m=>some (.i .i64 (Int.ofNat m),H,n)
  | none=>match az T x with
   | some .ns=>some (.i .i64 0,H,n)
   | some (.sl _ _ _ c)=>some (.i .i64 (Int.ofNat c),H,n)
   | _=>none
 | .mm mx l=>match eE T l with
  | some (v::vs)=>cW H n (xV (LF mx) v vs)
  | _=>none
 | .FJ z x=>match az T x with
  | some .ns=>some (.u [],H,n)
  | some .nm=>some (.u [],H,n)
  | some (.sl b o l _)=>bif Nat.beq l 0 then some (.u [],H,n) else oy n (fB H b o (dL z l))
  | some (.su b o l _)=>bif Nat.beq l 0 then some (.u [],H,n) else oy n (fB H b o (dL z l))
  | _=>none
 | .lj _ _=>none
 | .rY _=>none
 | .bad=>none
inductive Cv where
 | code (c:AC) (T:Tr V)
 | call (f:V) (l:List V)
 deriving Inhabited
structure R where
 ex:Ex
 T:Tr V
 v:V
 H:Hp
 n:K
 deriving Inhabited
abbrev db:=Cv->Hp->K->Option R
def dh(d:Option K)(v:Option V)(T:Tr V):Tr V:=
 match d with
 | some k=>T.put v k
 | none=>T
def want(g:Option (K×Bool))(T:Tr V):Option Bool:=
 match g with
 | none=>some true
 | some (k,w)=>match T.get k with
  | some (.b x)=>some (bif w then x else !x)
  | some (.u [])=>some false
  | _=>none
def dI(ih:db)(op:A)(T:Tr V)(H:Hp)(n:K):Option R:=
 match op with
 | .lj f l=>match az T f,eE T l with
  | some f,some l=>ih (.call f l) H n
  | _,_=>none
 | .rY x=>match az T x with
  | some (.jM t v)=>some ⟨.panic (.jM t v),.e,.q,H,n⟩
  | _=>none
 | op=>match simple op T H n with
  | some (v,H,n)=>some ⟨.normal,.e,v,H,n⟩
  | none=>none
def oper(ih:db)(op:A)(T:Tr V)(H:Hp)(n:K):fo:=
 match dI ih op T H n with
 | some ⟨.normal,_,v,H,n⟩=>some (v,H,n)
 | _=>none
def eX(ih:db):List AO->Tr V->Hp->K->Option R
 | [],T,H,n=>some ⟨.normal,T,.q,H,n⟩
 | o::l,T,H,n=>match want o.guard T with
  | some true=>match dI ih o.op T H n with
   | some ⟨.normal,_,v,H,n⟩=>eX ih l (dh o.dst (some v) T) H n
   | some ⟨.panic v,_,_,H,n⟩=>some ⟨.panic v,T,.q,H,n⟩
   | _=>none
  | some false=>eX ih l (dh o.dst (some (.u [])) T) H n
  | none=>none
inductive Cls where
 | pure | make | read | jt
def cls:A->Cls
 | .mv _ | .pick _ _ _ | .bld _ _ | .nck _ | .bin _ _ _ _ | .un _ _ | .mif _ _ | .mfn _ _ _ | .sli _ _ _ _ _ | .fad _ _ | .fld _ _ _ _
 | .iad _ _ _ _ | .idx _ _ _ | .tas _ _ _ _ | .ext _ _ | .mm _ _ | .cap _ _=>.pure
 | .new _ _ | .box _ _ | .bsl _ _ _ _ | .mmap | .msl _ _ _ _ _ _=>.make
 | .ld _ _ _ | .lkp _ _ _ _ _ | .len _ _=>.read
 | .cv (.toInt _) _ | .cv .same _ | .cv .yX _=>.pure
 | .cv .xm _=>.read
 | _=>.jt
mutual
def cI:V->V->Bool
 | .b x,.b y=>x==y
 | .i k x,.i k' y=>Nat.beq (kn k) (kn k')&&pG x y
 | .s l n,.s l' n'=>Nat.beq l l'&&Nat.beq n n'
 | .np,.np=>true
 | .p b o,.p b' o'=>b.beq b'&&Nat.beq o o'
 | .ns,.ns=>true
 | .sl b o l c,.sl b' o' l' c'=>b.beq b'&&Nat.beq o o'&&Nat.beq l l'&&Nat.beq c c'
 | .su b o l c,.su b' o' l' c'=>b.beq b'&&Nat.beq o o'&&Nat.beq l l'&&Nat.beq c c'
 | .nm,.nm=>true
 | .m b,.m b'=>b.beq b'
 | .nf,.nf=>true
 | .f g a c,.f g' a' c'=>Nat.beq g g'&&jA a a'&&jA c c'
 | .ni,.ni=>true
 | .jM t v,.jM t' v'=>Nat.beq t t'&&cI v v'
 | .a l,.a l'=>jA l l'
 | .u l,.u l'=>jA l l'
 | _,_=>false
def jA:List V->List V->Bool
 | [],[]=>true
 | a::l,a'::l'=>cI a a'&&jA l l'
 | _,_=>false
end
def K.cmp:Bool->K->K->Bool
 | f,.h,.h=>f
 | _,.h,_=>true
 | _,_,.h=>false
 | f,.o a,.o b=>K.cmp f a b
 | f,.i a,.i b=>K.cmp f a b
 | _,.o a,.i b=>K.cmp true a b
 | _,.i a,.o b=>K.cmp false a b
mutual
def bk (n:K):V->Bool
 | .p b _ | .sl b _ _ _ | .su b _ _ _ | .m b | .y b=>K.cmp false b n
 | .f _ a c=>fC n a&&fC n c
 | .jM _ v=>bk n v
 | .a l | .u l=>fC n l
 | _=>true
def fC (n:K):List V->Bool
 | []=>true
 | v::l=>bk n v&&fC n l
end
abbrev Made:=List (K×Nat)
def cY(H:Hp)(Ξ:Nat):Made->Hp
 | []=>H
 | (k,i)::l=>bif Nat.testBit Ξ i then cY H Ξ l else cY (H.put none k) Ξ l
def back(H H':Hp)(Ξ:Nat):Made->Hp
 | []=>H'
 | (k,i)::l=>bif Nat.testBit Ξ i then back H H' Ξ l else back H (H'.put (H.get k) k) Ξ l
structure Rd where
 i:Nat
 op:A
 Ξ:Nat
 T:Tr V
 v:V
structure Bg where
 i:Nat
 Ξ:Nat
 H:Hp
 H':Hp
def Ac(r:Rd)(H:Hp)(m:Made):Bool:=
 match simple r.op r.T (cY H r.Ξ m) .h with
 | some (v,_,_)=>cI v r.v
 | none=>false
def xW(m:Made)(r:Rd)(b:Bg):Bool:=
 Nat.testBit r.Ξ b.i||Nat.testBit b.Ξ r.i||(Ac r b.H m&&Ac r b.H' m)
def sa(m:Made)(rs:List Rd)(bs:List Bg):Bool:=rs.all λr=>bs.all λb=>xW m r b
def dV(ih:db):List AO->Nat->Tr V->Hp->K->Made->List Rd->List Bg->Option R
 | [],_,T,H,n,m,rs,bs=>bif sa m rs bs then some ⟨.normal,T,.q,H,n⟩ else none
 | o::l,i,T,H,n,m,rs,bs=>match want o.guard T with
  | some true=>match oper ih o.op T (cY H o.Ξ m) n with
   | some (v,H',n')=>
    let oz:=back H H' o.Ξ m
    match cls o.op with
    | .pure=>dV ih l (Nat.succ i) (dh o.dst (some v) T) H n m rs bs
    | .read=>bif bk n v then dV ih l (Nat.succ i) (dh o.dst (some v) T) H n m (⟨i,o.op,o.Ξ,T,v⟩::rs) bs else none
    | .make=>dV ih l (Nat.succ i) (dh o.dst (some v) T) oz n' ((n,i)::m) rs bs
    | .jt=>dV ih l (Nat.succ i) (dh o.dst (some v) T) oz n' m rs (⟨i,o.Ξ,H,oz⟩::bs)
   | none=>none
  | some false=>dV ih l (Nat.succ i) (dh o.dst (some (.u [])) T) H n m rs bs
  | none=>none
def GL:V×V×Nat->V×V×Nat->Bool
 | (a,b,c),(a',b',c')=>cI a a'&&cI b b'&&Nat.beq c c'
def FM:List (V×V×Nat)->List (V×V×Nat)->Bool
 | [],[]=>true
 | a::l,a'::l'=>GL a a'&&FM l l'
 | _,_=>false
def sb(a b:O):Bool:=
 match a with
 | .c l e fz=>(match b with | .c l' d f=>jA l l'&&Nat.beq e d&&Nat.beq fz f | _=>false)
 | .r l=>(match b with | .r l'=>jA l l' | _=>false)
 | .b x y e=>(match b with | .b g h d=>cI x g&&cI y h&&Nat.beq e d | _=>false)
 | .mp es c=>(match b with | .mp i c'=>FM es i&&Nat.beq c c' | _=>false)
 | .mi b1 c=>(match b with | .mi b' c'=>b1.beq b'&&Nat.beq c c' | _=>false)
 | .me m c t=>(match b with | .me j c' t'=>m.beq j&&Nat.beq c c'&&Nat.beq t t' | _=>false)
 | .it l n p=>(match b with | .it l' n' k=>Nat.beq l l'&&Nat.beq n n'&&Nat.beq p k | _=>false)
 | .lp _ _ _ _ _ _=>false
def eP{α:Type}(eq:α->α->Bool):Tr α->Tr α->Bool
 | .e,_=>true
 | .n v l r,.e=>(match v with | none=>true | some _=>false)&&eP eq l .e&&eP eq r .e
 | .n v l r,.n v' l' r'=>(match v,v' with | none,_=>true | some a,some a'=>eq a a' | _,_=>false)&&eP eq l l'&&eP eq r r'
def erase(T:Tr V):List K->Tr V
 | []=>T
 | k::l=>erase (T.put none k) l
def uf(cD:Nat):Nat->List (V×V×Nat)->Bool
 | _,[]=>true
 | lo,(_,_,t)::es=>Nat.ble lo t&&Nat.blt t cD&&uf cD (Nat.succ t) es
def pS(T:Tr V)(x:au)(b:K):Bool:=
 match az T x with
 | some (.p b' 0)=>K.beq b b'
 | _=>false
def Ad(go:V×V×Nat->Option R)(T:Tr V)(H:Hp):List (V×V×Nat)->Bool
 | []=>true
 | e::es=>(match go e with
  | some ⟨.normal,T',_,H',_⟩=>eP cI T T'&&eP sb H H'
  | _=>false)&&Ad go T H es
def binds:List K->List V->Tr V->Option (Tr V)
 | _,[],T=>some T
 | k::ks,v::vs,T=>binds ks vs (T.put (some v) k)
 | [],_::_,_=>none
def result(T:Tr V)(H:Hp):AR->Option V
 | .t k=>T.get k
 | .cell k agg sz=>match T.get k with
  | some a=>rO H agg sz a
  | none=>none
def ug(T:Tr V)(H:Hp):List AR->Option (List V)
 | []=>some []
 | r::l=>match result T H r,ug T H l with
  | some v,some vs=>some (v::vs)
  | _,_=>none
def pe(l:List AR)(T:Tr V)(H:Hp):Option V:=
 match ug T H l with
 | some [v]=>some v
 | some vs=>some (.u vs)
 | none=>none
def Ex.hU:Ex->Bool
 | .normal=>true
 | _=>false
def Ex.GM:Ex->V
 | .panic v=>v
 | _=>.ni
def Ex.pf:Ex->Bool
 | .panic _=>true
 | _=>false
def xX(c:Nat):Nat->Nat->Nat->Option Nat
 | 0,_,_=>none
 | l+1,n,i=>bif Nat.beq (Nat.mod n 256) c then some i else xX c l (Nat.div n 256) (Nat.succ i)
def GN:Option Nat->V
 | some i=>.i .i64 (Int.ofNat i)
 | none=>.i .i64 (Int.negSucc 0)
def Ae(l:List V)(H:Hp)(n:K):fo:=
 match l with
 | [.s l m,.i .u8 (.ofNat c)]=>bif Nat.blt c 256 then some (GN (xX c l m 0),H,n) else none
 | _=>none
def GO(l:List V)(H:Hp)(n:K):fo:=
 match l with
 | [v]=>some (v,H,n)
 | _=>none
def TE.fits(e:TE)(l:List V)(H:Hp)(n:K):Bool:=K.beq e.n n&&jA e.args l&&K.cmp true n e.n'&&eP sb e.bM H
def Dx:List TE->List V->Hp->K->fo
 | [],_,_,_=>none
 | e::es,l,H,n=>bif e.fits l H n then some (e.v,e.add,e.n') else Dx es l H n
def pm(p:Pm)(l:List V)(H:Hp)(n:K):fo:=
 match p with
 | .rZ=>Ae l H n
 | .same=>GO l H n
 | .iV es=>Dx es l H n
 | .zY bM v=>match l with
  | []=>bif eP sb bM H then some (v,H,n) else none
  | _=>none
def bh(C:Nat->Option aI)(ih:db)(j:Cv)(H:Hp)(n:K):Option R:=
 match j with
 | .code c T=>match c with
  | .skip=>some ⟨.normal,T,.q,H,n⟩
  | .reg l=>eX ih l T H n
  | .regd l=>dV ih l 0 T H n [] [] []
  | .seq a b=>match ih (.code a T) H n with
   | some ⟨.normal,T,_,H,n⟩=>ih (.code b T) H n
   | r=>r
  | .cond c a b=>match az T c with
   | some (.b x)=>ih (.code (bif x then a else b) T) H n
   | _=>none
  | .block id c=>match ih (.code c T) H n with
   | some ⟨.exit h,T,v,H,n⟩=>bif Nat.beq id h then some ⟨.normal,T,v,H,n⟩ else some ⟨.exit h,T,v,H,n⟩
   | r=>r
  | .loop c=>match ih (.code c T) H n with
   | some ⟨.normal,T,_,H,n⟩=>ih (.code (.loop c) T) H n
   | r=>r
  | .ox f ps bY body=>match az T f with
   | some f=>match ih (.call f [.y n]) (H.put (some (.lp true .normal T ps bY body)) n) n.succ with
    | some ⟨.normal,_,_,H',n'⟩=>match H'.get n with
     | some (.lp true fA _ _ _ _)=>bif fA.pf then none else some ⟨fA,T,.q,H'.put none n,n'⟩
     | some (.lp false fA _ _ _ _)=>bif fA.pf||fA.hU then none else some ⟨fA,T,.q,H'.put none n,n'⟩
     | _=>none
    | _=>none
   | none=>none
  | .nH d x l c ws=>match az T x with
   | some (.p b 0)=>match H.get b with
    | some (.mi m since)=>match H.get m with
     | some (.mp es cD)=>bif Nat.beq since cD&&uf cD 0 es then
      let round (T:Tr V) (H:Hp) (n:K) (e:V×V×Nat):Option R:=match eX ih l (dh d (some (.u [.b true,e.1,e.2.1])) T) (H.put (some (.me m cD e.2.2)) b) n with
       | some ⟨.normal,T,_,H,n⟩=>ih (.code c T) H n
       | _=>none
      let over (T:Tr V) (H:Hp) (n:K):Option R:=match eX ih l (dh d (some (.u [.b false])) T) H n with
       | some ⟨.normal,T,_,H,n⟩=>(match ih (.code c T) H n with
        | some ⟨.normal,_,_,_,_⟩=>none
        | r=>r)
       | _=>none
      match es with
      | [e]=>match round T (H.put none b) n e with
       | some ⟨.normal,T,_,H,n⟩=>(match H.get b,H.get m with
        | some (.me _ _ _),some (.mp [(_,_,t)] cD)=>bif Nat.beq since cD&&Nat.beq t e.2.2&&pS T x b then over T (H.put none b) n else none
        | _,_=>none)
       | r=>r
      | es=>
       let T:=erase T ws;let H:=H.put none b
       bif pS T x b&&Ad (round T H n) T H es then over T H n else none
      else none
     | _=>none
    | _=>none
   | _=>none
  | .exit id=>some ⟨.exit id,T,.q,H,n⟩
  | .scope c=>ih (.code c T) H n
  | .ret=>some ⟨.ret,T,.q,H,n⟩
  | .bad=>none
 | .call f l=>match f with
  | .f g a c=>match C g with
   | some (.pm p)=>match pm p (a++(l++c)) H n with
    | some (v,H,n)=>some ⟨.normal,.e,v,H,n⟩
    | none=>none
   | some (.go af)=>match binds af.iH (a++(l++c)) .e with
    | some T=>match ih (.code af.body T) H n with
     | some ⟨.exit _,_,_,_,_⟩=>none
     | some ⟨.panic v,_,_,H,n⟩=>some ⟨.panic v,.e,.q,H,n⟩
     | some ⟨_,T,_,H,n⟩=>match pe af.res T H with
      | some v=>some ⟨.normal,.e,v,H,n⟩
      | none=>none
     | none=>none
    | none=>none
   | some (.vQ af)=>match binds af.iH (a++(l++c)) .e with
    | some T=>match eX ih af.pre T H n with
     | some ⟨.normal,T,_,H,n⟩=>match eE T af.fQ with
      | some fQ=>match ih (.code af.body (T.put (some (.f af.g [] fQ)) af.GD)) H n with
       | some ⟨.exit _,_,_,_,_⟩=>none
       | some ⟨ex,T,_,H,n⟩=>match binds af.GF fQ .e with
        | some Tc=>match ih (.code af.GH (Tc.put (some ex.GM) af.GG)) H n with
         | some ⟨.exit _,_,_,_,_⟩=>none
         | some ⟨.panic _,_,_,_,_⟩=>none
         | some ⟨_,_,_,H,n⟩=>match pe af.res T H with
          | some v=>some ⟨.normal,.e,v,H,n⟩
          | none=>none
         | none=>none
        | none=>none
       | none=>none
      | none=>none
     | _=>none
    | none=>none
   | none=>none
  | .y k=>match H.get k with
   | some (.lp true .normal T ps bY body)=>match binds ps l T with
    | some T'=>bif Nat.beq ps.length l.length then
     (match ih (.code bY T') H n with
     | some ⟨.normal,T',_,H,n⟩=>match H.get k with
      | some (.lp true .normal T ps bY i)=>match ih (.code body T') (H.put (some (.lp false .normal T ps bY i)) k) n with
       | some r=>match r.H.get k with
        | some (.lp false .normal T ps bY body)=>bif r.ex.pf then none else some ⟨.normal,.e,.b r.ex.hU,r.H.put (some (.lp r.ex.hU r.ex T ps bY body)) k,r.n⟩
        | _=>none
       | none=>none
      | _=>none
     | _=>none) else none
    | none=>none
   | _=>none
  | _=>none
def ev(C:Nat->Option aI):Nat->db
 | 0=>λ_ _ _=>none
 | f+1=>bh C (ev C f)
def K.Af:Nat->Nat->K
 | 0,_=>.h
 | f+1,n=>bif Nat.ble n 1 then .h else bif Nat.beq (Nat.mod n 2) 0 then .o (K.Af f (Nat.div n 2)) else .i (K.Af f (Nat.div n 2))
def bL(t:Nat):K:=K.Af (Nat.succ t) (Nat.succ t)
inductive TD where
 | bool | int (k:IntKind) | str | ptr (e:Nat) | slice (e:Nat) | arr (n e:Nat) | map (k e:Nat)
 | iI (fs:List (Nat×Nat)) (plain:Bool)
 | func | iface | xZ | other
 deriving Inhabited
structure TI where
 desc:TD
 size:Nat
 bytes:Nat
 zero:List V
 deriving Inhabited
structure Ty where
 i:Nat->Option TI
 g:Nat
 b:Nat
instance:CoeFun Ty (λ_=>Nat->Option TI):=⟨Ty.i⟩
def TD.agg:TD->Bool
 | .iI _ _ | .arr _ _=>true
 | _=>false
def TI.zeroV(i:TI):V:=bif i.desc.agg then .a i.zero else i.zero.headD .q
def aT:List UInt8->Nat
 | []=>0
 | b::l=>b.toNat+256*aT l
mutual
def fD:Value->Option V
 | .bool b=>some (.b b)
 | .int k n=>some (.i k n)
 | .string s=>some (.s s.size (aT s.data.toList))
 | .pointer none=>some .np
 | .slice none 0 0=>some .ns
 | .map none=>some .nm
 | .func (.func f) ⟨[]⟩ ⟨[]⟩=>some (.f f [] [])
 | .nilFunc=>some .nf
 | .nilIface=>some .ni
 | .iface t v=>match fD v with | some v=>some (.jM t v) | none=>none
 | .agg ⟨l⟩=>match uh l with | some l=>some (.a l) | none=>none
 | .tuple ⟨l⟩=>match uh l with | some l=>some (.u l) | none=>none
 | _=>none
def uh:List Value->Option (List V)
 | []=>some []
 | v::l=>match fD v,uh l with
  | some v,some l=>some (v::l)
  | _,_=>none
end
def br(ty:Ty):Operand->Option au
 | .tmp t=>some (.t (bL t))
 | .const v=>match fD v with | some v=>some (.c v) | none=>none
 | .global g=>bif Nat.blt g ty.g then some (.c (.p (bL g) 0)) else none
 | .func f=>some (.c (.f f [] []))
def nJ(ty:Ty):List Operand->Option (List au)
 | []=>some []
 | x::l=>match br ty x,nJ ty l with
  | some x,some l=>some (x::l)
  | _,_=>none
def rb(ty:Ty):Option Operand->Option (Option au)
 | none=>some none
 | some x=>match br ty x with | some x=>some (some x) | none=>none
def TD.ek:TD->Option EK
 | .bool=>some .bool
 | .int _=>some .int
 | .str=>some .str
 | .ptr _=>some .ptr
 | .slice _=>some .slice
 | .map _ _=>some .map
 | .func=>some .func
 | _=>none
def TD.key:TD->Option EK
 | .bool=>some .bool
 | .int _=>some .int
 | .str=>some .str
 | _=>none
def flat(ty:Ty):List (Nat×Nat)->Option (List (Nat×EK))
 | []=>some []
 | (t,o)::fs=>match ty t with
  | some i=>match i.desc.key,flat ty fs with
   | some q,some l=>some ((o,q)::l)
   | _,_=>none
  | none=>none
def uj:Operand->Bool
 | .const .nilIface=>true
 | _=>false
def lN(ty:Ty)(k:Nat):Option dE:=
 match ty k with
 | some i=>match i.desc with
  | .iI fs plain=>bif plain then (match flat ty fs with | some l=>some (.agg l) | none=>none) else none
  | .arr n e=>match ty e with
   | some j=>match j.desc.key with
    | some q=>some (.agg ((List.range n).map λi=>(i,q)))
    | none=>none
   | none=>none
  | d=>match d.key with | some q=>some (.one q) | none=>none
 | none=>none
def FN(ty:Ty)(t:Nat)(x y:Operand):Option dE:=
 match ty t with
 | some i=>match i.desc with
  | .iI _ _ | .arr _ _=>lN ty t
  | .iface=>bif uj x||uj y then some (.one .iface) else none
  | .ptr e=>match ty e with
   | some j=>bif Nat.beq j.size 0 then none else some (.one .ptr)
   | none=>none
  | d=>match d.ek with | some q=>some (.one q) | none=>none
 | none=>none
def isEq:BinOp->Bool
 | .eql | .neq=>true
 | _=>false
def vT(ty:Ty)(off:Nat->Option (Nat×Nat)):List (Nat×Operand)->Option (List (Nat×Nat×au))
 | []=>some []
 | (i,x)::l=>match off i,br ty x,vT ty off l with
  | some (o,s),some x,some l=>some ((o,s,x)::l)
  | _,_,_=>none
def Dy(ty:Ty)(fs:List (Nat×Nat))(i:Nat):Option (Nat×Nat):=
 match nth fs i with
 | some (t,o)=>match ty t with | some j=>some (o,j.size) | none=>none
 | none=>none
def pT(ty:Ty)(c:Call):Option A:=
 match c.callee with
 | .value f=>match br ty f,nJ ty c.args.toList with
  | some f,some l=>some (.lj f l)
  | _,_=>none
 | .invoke _ _=>none
 | .builtin b=>match b,c.args.toList,c.argTypes.toList with
  | .append,[s,x],t::u::_=>match ty t,ty u,br ty s,br ty x with
   | some i,some j,some s,some x=>match i.desc,j.desc with
    | _,.other=>none
    | .slice e,d=>match ty e with
     | some k=>some (.app e k.size k.bytes k.zero (match d with | .int _=>true | _=>false) s x)
     | none=>none
    | _,_=>none
   | _,_,_,_=>none
  | .unsafeSliceData,[x],t::_=>match ty t,br ty x with
   | some i,some x=>match i.desc with
    | .slice _=>some (.LB x)
    | _=>none
   | _,_=>none
  | .unsafeString,[p,l],t::_=>match ty t,br ty p,br ty l with
   | some i,some p,some l=>match i.desc with
    | .ptr u=>match ty u with | some ⟨.int .u8,1,_,_⟩=>some (.zX u p l) | _=>none
    | _=>none
   | _,_,_=>none
  | .copy,[d,x],t::_=>match ty t,br ty d,br ty x with
   | some i,some d,some x=>match i.desc with
    | .slice e=>match ty e with | some k=>some (.xn k.size d x) | none=>none
    | _=>none
   | _,_,_=>none
  | .len,[x],t::_=>match ty t,br ty x with
   | some i,some x=>match i.desc with
    | .arr n _=>some (.mv (.c (.i .i64 (Int.ofNat n))))
    | .ptr e=>match ty e with | some ⟨.arr n _,_,_,_⟩=>some (.mv (.c (.i .i64 (Int.ofNat n)))) | _=>none
    | .str=>some (.len 0 x)
    | .slice _=>some (.len 1 x)
    | .map _ _=>some (.len 2 x)
    | _=>none
   | _,_=>none
  | .cap,[x],t::_=>match ty t,br ty x with
   | some i,some x=>match i.desc with
    | .slice _=>some (.cap none x)
    | _=>none
   | _,_=>none
  | .max,l,_=>match nJ ty l with | some l=>some (.mm true l) | none=>none
  | .min,l,_=>match nJ ty l with | some l=>some (.mm false l) | none=>none
  | .clear,[x],t::_=>match ty t,br ty x with
   | some i,some x=>match i.desc with
    | .slice e=>match ty e with | some k=>some (.FJ k.zero x) | none=>none
    | _=>none
   | _,_=>none
  | _,_,_=>none
def dc(ty:Ty)(o:Op):Option A:=
 match o with
 | .move x | .assign x=>match br ty x with | some x=>some (.mv x) | none=>none
 | .pick c a b=>match br ty c,br ty a,br ty b with
  | some c,some a,some b=>some (.pick c a b)
  | _,_,_=>none
 | .alloc e=>match ty e with
  | some i=>bif Nat.beq e ty.b then (match i.zero with | [x,y]=>some (.Dt e x y) | _=>none) else some (.new e i.zero)
  | none=>none
 | .box e x=>match br ty x with | some x=>some (.box e x) | none=>none
 | .build t ps=>match ty t with
  | some i=>match i.desc with
   | .iI fs _=>match vT ty (Dy ty fs) ps.toList with | some l=>some (.bld i.zero l) | none=>none
   | .arr _ e=>match ty e with
    | some j=>match vT ty (λk=>some (k*j.size,j.size)) ps.toList with | some l=>some (.bld i.zero l) | none=>none
    | none=>none
   | _=>none
  | none=>none
 | .buildSlice t len ps=>match ty t with
  | some i=>match i.desc with
   | .slice e=>match ty e with
    | some j=>bif Nat.ble (len*j.size) 16777216 then
     (match vT ty (λk=>some (k*j.size,j.size)) ps.toList with | some l=>some (.bsl e (dL j.zero len) len l) | none=>none) else none
    | none=>none
   | _=>none
  | none=>none
 | .load t a=>match ty t,br ty a with
  | some i,some a=>some (.ld i.desc.agg i.size a)
  | _,_=>none
 | .store t a v=>match ty t,br ty a,br ty v with
  | some i,some a,some v=>some (.st i.size a v)
  | _,_,_=>none
 | .nilCheck x=>match br ty x with | some x=>some (.nck x) | none=>none
 | .binOp op t x y _=>match br ty x,br ty y with
  | some a,some b=>bif isEq op then (match FN ty t x y with | some k=>some (.bin op k a b) | none=>none) else some (.bin op (.one .bool) a b)
  | _,_=>none
 | .unOp op _ x=>match br ty x with | some x=>some (.un op x) | none=>none
 | .convert a b x=>match ty a,ty b,br ty x with
  | some i,some j,some x=>match i.desc,j.desc with
   | .int _,.int k=>some (.cv (.toInt k) x)
   | .str,.str=>some (.cv .same x)
   | .int _,.str=>some (.cv .yX x)
   | .ptr e,.xZ=>bif Nat.beq e ty.b then some (.cv .FH x) else none
   | .xZ,.ptr e=>bif Nat.beq e ty.b then some (.cv (.FI e) x) else none
   | .slice e,.str=>match ty e with | some ⟨.int .u8,_,_,_⟩=>some (.cv .xm x) | _=>none
   | .str,.slice e=>match ty e with
    | some ⟨.int .i32,_,_,_⟩=>some (.cv (.Gz e) x)
    | _=>none
   | _,_=>none
  | _,_,_=>none
 | .makeInterface t x=>match ty t,br ty x with
  | some i,some x=>match i.desc with
   | .iface | .other=>none
   | _=>some (.mif t x)
  | _,_=>none
 | .makeFunc fn a c=>match fn with
  | .func f=>match nJ ty a.toList,nJ ty c.toList with
   | some a,some c=>some (.mfn f a c)
   | _,_=>none
  | _=>none
 | .makeMap t r=>match ty t with
  | some i=>match i.desc,r with
   | .map _ _,none=>some .mmap
   | .map _ _,some (.const (.int _ _))=>some .mmap
   | _,_=>none
  | none=>none
 | .makeSlice t l c=>match ty t,br ty l,br ty c with
  | some i,some l,some c=>match i.desc with
   | .slice e=>match ty e with | some j=>some (.msl e j.size j.bytes j.zero l c) | none=>none
   | _=>none
  | _,_,_=>none
 | .slice t x lo hi mx=>match ty t,br ty x,rb ty lo,rb ty hi,rb ty mx with
  | some i,some x,some lo,some hi,some mx=>bif mx.isSome&&hi.isNone then none else match i.desc with
   | .str=>some (.sli .str x lo hi mx)
   | .slice e=>match ty e with | some j=>some (.sli (.sl j.size) x lo hi mx) | none=>none
   | .arr n e=>match ty e with | some j=>some (.sli (.arr n j.size) x lo hi mx) | none=>none
   | _=>none
  | _,_,_,_,_=>none
 | .fieldAddr s x f=>match ty s,br ty x with
  | some i,some x=>match i.desc with
   | .iI fs _=>match Dy ty fs f with
    | some (o,sz)=>bif Nat.beq sz 0 then none else some (.fad o x)
    | none=>none
   | _=>none
  | _,_=>none
 | .field s x f=>match ty s,br ty x with
  | some i,some x=>match i.desc with
   | .iI fs _=>match nth fs f with
    | some (t,o)=>match ty t with | some j=>some (.fld j.desc.agg o j.size x) | none=>none
    | none=>none
   | _=>none
  | _,_=>none
 | .indexAddr t x d=>match ty t,br ty x,br ty d with
  | some i,some x,some d=>match i.desc with
   | .arr n e=>match ty e with | some j=>some (.iad (some n) j.size x d) | none=>none
   | .slice e=>match ty e with | some j=>some (.iad none j.size x d) | none=>none
   | _=>none
  | _,_,_=>none
 | .index t x d=>match ty t,br ty x,br ty d with
  | some i,some x,some d=>match i.desc with
   | .str=>some (.idx none x d)
   | .arr n e=>match ty e with | some j=>some (.idx (some (n,j.size,j.desc.agg)) x d) | none=>none
   | _=>none
  | _,_,_=>none
 | .lookup t m k ok=>match ty t,br ty m,br ty k with
  | some i,some m,some k=>match i.desc with
   | .map kt e=>match ty e with
    | some j=>match lN ty kt with | some q=>some (.lkp q j.zeroV ok m k) | none=>none
    | none=>none
   | _=>none
  | _,_,_=>none
 | .mapUpdate t m k v | .insert t m k v=>match ty t,br ty m,br ty k,br ty v with
  | some i,some m,some k,some v=>match i.desc with
   | .map kt _=>match lN ty kt with | some q=>some (.LC q m k v) | none=>none
   | _=>none
  | _,_,_,_=>none
 | .range t x=>match ty t,br ty x with
  | some i,some x=>match i.desc with
   | .str=>some (.GB false x)
   | .map _ _=>some (.GB true x)
   | _=>none
  | _,_=>none
 | .next x s=>match br ty x with | some x=>bif s then some (.GC s x) else none | none=>none
 | .entry x=>match br ty x with | some x=>some (.VD x) | none=>none
 | .typeAssert x _ t ok=>match ty t,br ty x with
  | some i,some x=>match i.desc with
   | .iface | .other=>none
   | _=>some (.tas t i.zeroV ok x)
  | _,_=>none
 | .extract x i=>match br ty x with | some x=>some (.ext x i) | none=>none
 | .call c=>pT ty c
 | .panic x=>match br ty x with | some x=>some (.rY x) | none=>none
 | _=>none
def uk(ops:Array Oper):Option (Nat×Bool)->Option (Option (K×Bool))
 | none=>some none
 | some (j,w)=>match (ops[j]?).bind (·.dst) with
  | some d=>some (some (bL d,w))
  | none=>none
def iJ(ty:Ty)(ops:Array Oper)(o:Oper)(Ξ:Nat):AO:=
 match uk ops o.guard with
 | some g=>{ dst:=o.dst.map bL,op:=(dc ty o.op).getD .bad,guard:=g,Ξ}
 | none=>{ dst:=none,op:=.bad,guard:=none,Ξ}
def dA(ty:Ty)(ops:Array Oper):List Oper->List Nat->List AO
 | [],_=>[]
 | o::l,[]=>iJ ty ops o 0::dA ty ops l []
 | o::l,a::bY=>iJ ty ops o a::dA ty ops l bY
def A.ee:A->List au
 | .mv x | .box _ x | .ld _ _ x | .nck x | .un _ x | .cv _ x | .mif _ x | .fad _ x | .fld _ _ _ x | .GB _ x | .GC _ x | .VD x | .tas _ _ _ x | .ext x _ | .len _ x | .cap _ x | .FJ _ x | .rY x | .LB x=>[x]
 | .pick c a b=>[c,a,b]
 | .bld _ ps | .bsl _ _ _ ps=>ps.map (·.2.2)
 | .st _ a x | .bin _ _ a x | .iad _ _ a x | .idx _ a x | .lkp _ _ _ a x | .app _ _ _ _ _ a x | .xn _ a x | .msl _ _ _ _ a x | .zX _ a x=>[a,x]
 | .LC _ a b c=>[a,b,c]
 | .mfn _ a c=>a++c
 | .sli _ x lo hi mx=>x::(lo.toList++(hi.toList++mx.toList))
 | .mm _ l=>l
 | .lj f l=>f::l
 | .new _ _ | .Dt _ _ _ | .mmap | .bad=>[]
def looks:List au->List K
 | []=>[]
 | .t k::l=>k::looks l
 | .c _::l=>looks l
def AO.looks(o:AO):List K:=(match o.guard with | some (k,_)=>[k] | none=>[])++Ev.looks o.op.ee
def jt:A->Bool
 | .lj _ _=>true
 | op=>match cls op with | .jt=>true | _=>false
def vU(i:Nat)(a b:AO):Bool:=
 Nat.testBit b.Ξ i||
 (!(jt a.op&&jt b.op)&&
  (match a.dst with | some d=>!(b.looks.any (K.beq d)) | none=>true)&&
  (match b.dst with | some d=>!(a.looks.any (K.beq d)) | none=>true))
def ya(a b:AO):Bool:=
 match a.dst,b.dst with
 | some d,some e=>!(K.beq d e)
 | _,_=>true
def um(di:List Nat):List Edge->Nat
 | []=>0
 | e::l=>bif Region.binds .any e then Nat.lor (Nat.lor (Nat.pow 2 e.on) ((nth di e.on).getD 0)) (um di l) else um di l
def Ah(i:Nat):List Edge->Bool
 | []=>true
 | e::l=>(!(Region.binds .any e)||Nat.blt e.on i)&&Ah i l
def Dz(i:Nat)(a:AO):List AO->Bool
 | []=>true
 | b::l=>vU i a b&&ya a b&&Dz i a l
def uo(di:List Nat):Nat->List Oper->List AO->Bool
 | _,[],[]=>true
 | i,o::os,a::l=>Nat.beq a.Ξ (um di o.after.toList)&&Ah i o.after.toList&&Dz i a l&&uo di (Nat.succ i) os l
 | _,_,_=>false
def Ai:List AO->List K
 | []=>[]
 | o::l=>match o.dst with | some d=>d::Ai l | none=>Ai l
def AC.writes:AC->List K
 | .reg l | .regd l=>Ai l
 | .seq a b | .cond _ a b=>a.writes++b.writes
 | .block _ c | .loop c | .scope c=>c.writes
 | .nH d _ l c _=>(match d with | some d=>[d] | none=>[])++Ai l++c.writes
 | _=>[]
def re(ty:Ty)(c:AC):Code->AC
 | .seq (.region _ ⟨⟨d,.next x false,_,_,_,none⟩::_⟩ false) _=>match c,br ty x with
  | .seq (.reg (_::l)) c,some x=>
   let d:=d.map bL
   .nH d x l c ((match d with | some d=>[d] | none=>[])++Ai l++c.writes)
  | _,_=>.bad
 | _=>.loop c
def cJ(ty:Ty):Code->AC
 | .skip=>.skip
 | .region _ ops draw=>bif draw then (bif uo (Region.before ops).toList 0 ops.toList (dA ty ops ops.toList (Region.before ops).toList) then .regd (dA ty ops ops.toList (Region.before ops).toList) else .bad) else .reg (dA ty ops ops.toList [])
 | .seq a b=>.seq (cJ ty a) (cJ ty b)
 | .cond c a b=>match br ty c with | some c=>.cond c (cJ ty a) (cJ ty b) | none=>.bad
 | .block id c=>.block id (cJ ty c)
 | .loop c=>re ty (cJ ty c) c
 | .rangeFunc f ps bY body=>match br ty f with | some f=>.ox f (ps.toList.map bL) (cJ ty bY) (cJ ty body) | none=>.bad
 | .exit id=>.exit id
 | .scope c=>.scope (cJ ty c)
 | .label _=>.skip
 | .ret=>.ret
 | _=>.bad
def DA(ty:Ty):ResultVar->Option AR
 | .tmp t=>some (.t (bL t))
 | .cell a t=>match ty t with | some i=>some (.cell (bL a) i.desc.agg i.size) | none=>none
def sc(ty:Ty):List ResultVar->Option (List AR)
 | []=>some []
 | r::l=>match DA ty r,sc ty l with
  | some a,some bY=>some (a::bY)
  | _,_=>none
def gC(N:Nat):List Oper->Bool
 | []=>true
 | o::l=>(match o.dst with | some d=>Nat.blt d N | none=>true)&&gC N l
def mH(N:Nat):List Nat->Bool
 | []=>true
 | d::l=>Nat.blt d N&&mH N l
def within(N:Nat):Code->Bool
 | .region _ ops _=>gC N ops.toList
 | .seq a b=>within N a&&within N b
 | .cond _ a b=>within N a&&within N b
 | .block _ c=>within N c
 | .loop c=>within N c
 | .scope c=>within N c
 | .rangeFunc _ ps bY body=>mH N ps.toList&&within N bY&&within N body
 | _=>true
def rh(ty:Ty)(f:Func):Option AF:=
 match f.body,sc ty f.results.toList with
 | some c,some rs=>bif within f.ntmps c then
  some { iH:=(List.range (f.params.size+f.nfree)).map bL,res:=rs,body:=cJ ty c}
  else none
 | _,_=>none
def uq(ty:Ty)(fn:Func)(b:Nat->Option Func):Option xS:=
 match fn.body,sc ty fn.results.toList with
 | some (.seq (.region _ pre false) (.seq (.region _ ⟨[⟨some s,.makeFunc (.func g) ⟨[]⟩ fQ,_,_,_,none⟩,⟨none,.defer ⟨.value (.tmp c),⟨[]⟩,_⟩,_,_,_,none⟩]⟩ false) rest)),some rs=>
  match nJ ty fQ.toList,b g with
  | some d,some cf=>match cf.body with
   | some (.seq (.region _ ⟨[⟨some q,.call ⟨.builtin .recover,_,_⟩,_,_,_,none⟩]⟩ false) a)=>
    bif Nat.beq s c&&(gC fn.ntmps pre.toList&&(Nat.blt s fn.ntmps&&(within fn.ntmps rest&&(Nat.blt q cf.ntmps&&(within cf.ntmps a&&Nat.beq cf.results.size 0))))) then
     some { iH:=(List.range (fn.params.size+fn.nfree)).map bL,res:=rs,pre:=dA ty pre pre.toList [],GD:=bL s,g:=g,fQ:=d,body:=cJ ty rest,GF:=(List.range (cf.params.size+cf.nfree)).map bL,GG:=bL q,GH:=cJ ty a}
    else none
   | _=>none
  | _,_=>none
 | _,_=>none
def K.num:K->Nat
 | .h=>1
 | .o p=>2*p.num
 | .i p=>2*p.num+1
def K.pU(k:K):0<k.num:=by
 induction k with
 | h=>simp[K.num]
 | o p ih=>simp[K.num];omega
 | i p ih=>simp[K.num]
def K.Xt{a b:K}(h:a.num=b.num):a=b:=by
 induction a generalizing b with
 | h=>
  cases b with
  | h=>rfl
  | o p=>have:=p.pU;simp only[K.num]at h;omega
  | i p=>have:=p.pU;simp only[K.num]at h;omega
 | o p ih=>
  cases b with
  | h=>have:=p.pU;simp only[K.num]at h;omega
  | o q=>simp only[K.num]at h;rw[ih (b:=q) (by omega)]
  | i q=>simp only[K.num]at h;omega
 | i p ih=>
  cases b with
  | h=>have:=p.pU;simp only[K.num]at h;omega
  | o q=>simp only[K.num]at h;omega
  | i q=>simp only[K.num]at h;rw[ih (b:=q) (by omega)]
def K.eF(k:K):k.succ.num=k.num+1:=by
 induction k with
 | h=>rfl
 | o p ih=>simp[K.succ,K.num]
 | i p ih=>simp only[K.succ,K.num,ih];omega
def K.Xu(f n:Nat)(h:n<=f)(a:0<n):(K.Af f n).num=n:=by
 induction f generalizing n with
 | zero=>omega
 | succ f ih=>
  simp only[K.Af];by_cases h1:n<=1
  ·have:Nat.ble n 1=true:=by simpa using h1
   simp[this,K.num];omega
  ·have:Nat.ble n 1=false:=by cases hb:Nat.ble n 1 with | false=>rfl | true=>exact absurd (kH hb) h1
   simp only[this,cond_false];by_cases h2:n % 2=0
   ·have:Nat.beq (Nat.mod n 2) 0=true:=by show Nat.beq (n % 2) 0=true;rw[h2];rfl
    simp only[this,cond_true,K.num];have:=ih (Nat.div n 2) (by show n / 2<=f;omega) (by show 0<n / 2;omega);rw[this];show 2*(n / 2)=n;omega
   ·have:Nat.beq (Nat.mod n 2) 0=false:=by
     show Nat.beq (n % 2) 0=false;have:n % 2=1:=by omega
     rw[this];rfl
    simp only[this,cond_false,K.num];have:=ih (Nat.div n 2) (by show n / 2<=f;omega) (by show 0<n / 2;omega);rw[this];show 2*(n / 2)+1=n;omega
def vV(t:Nat):(bL t).num=t+1:=K.Xu _ _ (φ _) (Nat.succ_pos _)
def DB{a b:Nat}(h:bL a=bL b):a=b:=by have:=congrArg K.num h;rw[vV,vV]at this;omega
def K.beq_eq{a b:K}(h:K.beq a b=true):a=b:=by
 induction a generalizing b with
 | h=>cases b<;>simp_all [K.beq]
 | o p ih=>cases b<;>simp_all [K.beq];exact ih h
 | i p ih=>cases b<;>simp_all [K.beq];exact ih h
instance:DecidableEq K:=λa b=>if h:K.num a=K.num b then isTrue (K.Xt h) else isFalse λe=>h (by rw[e])
def K.beq_refl(a:K):K.beq a a=true:=by
 induction a with
 | h=>rfl
 | o p ih=>exact ih
 | i p ih=>exact ih
def Tr.gf{α:Type}(k:K):(Tr.e:Tr α).get k=none:=by cases k<;>rfl
def Tr.Xv{α:Type}(v:Option α)(k k':K):(Tr.vP v k).get k'=if k'=k then v else none:=by
 induction k generalizing k' with
 | h=>cases k'<;>simp[Tr.vP,Tr.get,Tr.gf]
 | o p ih=>cases k'<;>simp[Tr.vP,Tr.get,Tr.gf,ih]
 | i p ih=>cases k'<;>simp[Tr.vP,Tr.get,Tr.gf,ih]
def Tr.eL{α:Type}(v:Option α)(t:Tr α)(k k':K):(Tr.put v t k).get k'=if k'=k then v else t.get k':=by
 induction t generalizing k k' with
 | e=>simp[Tr.put,Tr.Xv,Tr.gf]
 | n w l r a b=>
  cases k<;>cases k'<;>simp[Tr.put,Tr.get,a,b]
def Tr.DC{α:Type}(v:Option α)(t:Tr α)(k:K):(Tr.put v t k).get k=v:=by simp[Tr.eL]
def Tr.DD{α:Type}(v:Option α)(t:Tr α){k k':K}(h:k'≠k):(Tr.put v t k).get k'=t.get k':=by simp[Tr.eL,h]
def nK{α:Type}(l:List α)(n:Nat):nth l n=l[n]?:=by
 induction l generalizing n with
 | nil=>simp[nth]
 | cons a l ih=>cases n with
  | zero=>simp[nth]
  | succ n=>simp[nth,ih]
def DE{α:Type}{n:Nat}{l r:List α}(h:takeN n l=some r):r=l.take n/\n<=l.length:=by
 induction n generalizing l r with
 | zero=>simp[takeN]at h;simp[h]
 | succ n ih=>
  cases l with
  | nil=>simp[takeN]at h
  | cons a l=>
   simp only[takeN]at h;split at h
   ·rename_i l' hl;obtain⟨rfl,b⟩:=ih hl;injection h with h;subst h;exact⟨by simp,by simp;omega⟩
   ·cases h
def GP{α:Type}{n:Nat}{l r:List α}(h:lM n l=some r):r=l.drop n/\n<=l.length:=by
 induction n generalizing l r with
 | zero=>simp[lM]at h;simp[h]
 | succ n ih=>
  cases l with
  | nil=>simp[lM]at h
  | cons a l=>
   simp only[lM]at h;obtain⟨rfl,b⟩:=ih h;exact⟨by simp,by simp;omega⟩
def mJ{α:Type}{l r:List α}{o n:Nat}(h:ch l o n=some r):r=(l.drop o).take n/\o+n<=l.length:=by
 unfold ch at h;split at h
 ·rename_i l' hl;obtain⟨rfl,h1⟩:=GP hl;obtain⟨rfl,h2⟩:=DE h;rw[qZ]at h2;exact⟨rfl,by omega⟩
 ·cases h
def Xw{α:Type}{vs l r:List α}(h:over vs l=some r):r.length=l.length/\vs.length<=l.length/\∀i,r[i]?=if i<vs.length then vs[i]? else l[i]?:=by
 induction vs generalizing l r with
 | nil=>simp[over]at h;simp[h]
 | cons v vs ih=>
  cases l with
  | nil=>simp[over]at h
  | cons a l=>
   simp only[over]at h;split at h
   ·rename_i l' hl;injection h with h;subst h;obtain⟨h1,h2,b⟩:=ih hl;refine⟨by simp[h1],by simp[h2],λi=>?_⟩;cases i with
    | zero=>simp
    | succ i=>simp[b i]
   ·cases h
def GQ{α:Type}{vs l r:List α}{o:Nat}(h:cL vs l o=some r):
 r.length=l.length/\o+vs.length<=l.length/\∀i,r[i]?=if o<=i/\i<o+vs.length then vs[i - o]? else l[i]?:=by
 induction o generalizing l r with
 | zero=>
  have h':over vs l=some r:=by cases l<;>simpa[cL]using h
  obtain⟨h1,h2,b⟩:=Xw h';refine⟨h1,by omega,λi=>?_⟩;rw[b i];simp
 | succ o ih=>
  cases l with
  | nil=>simp[cL]at h
  | cons a l=>
   simp only[cL]at h;split at h
   ·rename_i l' hl;injection h with h;subst h;obtain⟨h1,h2,b⟩:=ih hl;refine⟨by simp[h1],by simp;omega,λi=>?_⟩;cases i with
    | zero=>simp
    | succ i=>
     simp only[pK,b i];by_cases hi:o<=i/\i<o+vs.length
     ·rw[ao hi,ao (by omega)];congr 1;omega
     ·rw[Θ hi,Θ (by omega)]
   ·cases h
def bz:Nat->Nat->List UInt8
 | 0,_=>[]
 | l+1,n=>UInt8.ofNat (n % 256)::bz l (n / 256)
def strOf(l n:Nat):ByteArray:=⟨(bz l n).toArray⟩
def pg(l n:Nat):(bz l n).length=l:=by
 induction l generalizing n with
 | zero=>rfl
 | succ l ih=>simp[bz,ih]
def ri(l n:Nat):(strOf l n).size=l:=by show(bz l n).toArray.size=l;simp[pg]
def Nk(l n i:Nat)(h:i<l):(bz l n)[i]?=some (UInt8.ofNat (n / 256 ^ i % 256)):=by
 induction l generalizing n i with
 | zero=>omega
 | succ l ih=>
  cases i with
  | zero=>simp[bz]
  | succ i=>
   simp only[bz,pK];rw[ih (n / 256) i (by omega),zT,fy,cT]
def Xx(l n l' n':Nat)(h:n<256 ^ l):bz l n++bz l' n'=bz (l+l') (n+n'*256 ^ l):=by
 induction l generalizing n with
 | zero=>
  have:n=0:=by simpa using h
  simp[bz,this]
 | succ l ih=>
  rw[Nat.succ_add];simp only[bz,pc];have hp:256 ^ (l+1)=256 ^ l*256:=fy ..;have a:(n+n'*256 ^ (l+1)) % 256=n % 256:=by rw[hp,←gn,Nat.add_mul_mod_self_right]
  have b:(n+n'*256 ^ (l+1)) / 256=n / 256+n'*256 ^ l:=by rw[hp,←gn,Nat.add_mul_div_right _ _ (by omega)]
  rw[a,b,ih (n / 256) (by rw[hp]at h;omega)]
def Xy{l n n':Nat}(h:n<256 ^ l)(h':n'<256 ^ l)(e:bz l n=bz l n'):n=n':=by
 induction l generalizing n n' with
 | zero=>simp at h h';omega
 | succ l ih=>
  simp only[bz,List.cons.injEq]at e;have hp:256 ^ (l+1)=256 ^ l*256:=fy ..;have a:n % 256=n' % 256:=by have:=congrArg UInt8.toNat e.1;simpa using this
  have b:=ih (by rw[hp]at h;omega) (by rw[hp]at h';omega) e.2;omega
def Xz(l n a:Nat)(h:a<=l):(bz l n).drop a=bz (l - a) (n / 256 ^ a):=by
 induction a generalizing l n with
 | zero=>simp
 | succ a ih=>
  cases l with
  | zero=>omega
  | succ l=>
   simp only[bz,xR];rw[ih l (n / 256) (by omega),zT,fy,cT,Nat.succ_sub_succ]
def XA(l n a:Nat)(h:a<=l):(bz l n).take a=bz a (n % 256 ^ a):=by
 induction a generalizing l n with
 | zero=>simp[bz]
 | succ a ih=>
  cases l with
  | zero=>omega
  | succ l=>
   have hp:256 ^ (a+1)=256*256 ^ a:=by rw[fy,cT]
   simp only[bz,mD];rw[ih l (n / 256) (by omega),hp,Nat.mod_mul_right_mod,Nat.mod_mul_right_div_self]
def XB(l:List UInt8):aT l<256 ^ l.length:=by
 induction l with
 | nil=>simp[aT]
 | cons b l ih=>
  have:=b.toNat_lt;simp only[aT,dy,fy];omega
def GR(l:List UInt8):bz l.length (aT l)=l:=by
 induction l with
 | nil=>rfl
 | cons b l ih=>
  have:=b.toNat_lt;simp only[dy,bz,aT];have a:(b.toNat+256*aT l) % 256=b.toNat:=by omega
  have c:(b.toNat+256*aT l) / 256=aT l:=by omega
  rw[a,c,ih];simp
def Nl(s:ByteArray):strOf s.size (aT s.data.toList)=s:=by have:=GR s.data.toList;rw[xN]at this;show(⟨(bz s.data.size (aT s.data.toList)).toArray⟩:ByteArray)=s;rw[this]
section
def _root_.Go.Value.pV:Value->Bool
 | .agg _ | .tuple _=>false
 | _=>true
def aP{α:Type}(P:Program)(s:Sem α)(w:World)(Φ:α->World->Prop):Prop:=∃a w',s.run P w=.ok a w'/\Φ a w'
section XC
variable {α β:Type}{P:Program}{w:World}
def aP.mono{s:Sem α}{Φ Ψ:α->World->Prop}(h:aP P s w Φ)(k:∀a w',Φ a w'->Ψ a w'):aP P s w Ψ:=
 let⟨a,w',h1,h2⟩:=h;⟨a,w',h1,k _ _ h2⟩
def ai{a:α}{Φ:α->World->Prop}(h:Φ a w):aP P (pure a:Sem α) w Φ:=⟨a,w,rfl,h⟩
def Δ{x:Sem α}{f:α->Sem β}{Φ:β->World->Prop}(h:aP P x w λa w'=>aP P (f a) w' Φ):aP P (x >>=f) w Φ:=by obtain⟨a,w',h1,b,tH,h2,c⟩:=h;exact⟨b,tH,by show(Sem.bind x f).run P w=_;rw[Sem.run_bind',h1];exact h2,c⟩
def Ak{Φ:Program->World->Prop}(h:Φ P w):aP P program w Φ:=⟨P,w,rfl,h⟩
def Nm{q:Question}{Φ:Nat->World->Prop}(h:∀t d,d=w.drawn\/d=w.drawn+1->Φ (q.cut t) { w with drawn:=d})(h0:q.forced=true->Φ 0 w):aP P (choose q) w Φ:=by
 by_cases a:q.forced=true
 ·exact⟨0,w,by simp[choose,Sem.run,a],h0 a⟩
 ·exact⟨q.cut (w.tape w.drawn q),_,by simp[choose,Sem.run,a],h _ _ (.inr U)⟩
def GS{a:Addr}{m:Mode}{v:Value}{Φ:Value->World->Prop}(b:w.cell? a=some v)(h:Φ v w):aP P (load a m) w Φ:=
 ⟨v,w,by simp[load,Sem.run,b],h⟩
def XD{a:Addr}{m:Mode}{v v0:Value}{Φ:Unit->World->Prop}(h1:v.pV=true)(b:w.cell? a=some v0)(hf:w.frozen? a=false)
 (h:Φ () (w.setCell a v)):aP P (store a v m) w Φ:=by
 refine⟨(),_,?_,h⟩;cases v<;>simp_all [store,Sem.run,Value.pV]
def sd{o:Obj}{Φ:Nat->World->Prop}(h:Φ w.heap.size { w with heap:=w.heap.push o}):aP P (newObj o) w Φ:=⟨_,_,rfl,h⟩
def vW{r:Nat}{o:Obj}{Φ:Obj->World->Prop}(a:w.heap[r]?=some o)(b:∀c e f,o≠.cells c e f)(h:Φ o w):aP P (getObj r) w Φ:=by refine⟨o,w,?_,h⟩;simp only[getObj,Sem.run,a]
def GU{r:Nat}{o o':Obj}{Φ:Unit->World->Prop}(a:w.heap[r]?=some o)(b:∀c e f,o≠.cells c e f)
 (h:Φ () { w with heap:=w.heap.setIfInBounds r o'}):aP P (setObj r o') w Φ:=by
 refine⟨(),_,?_,h⟩;simp only[setObj,Sem.run,a]
end XC
def GV(P:Program)(t:TypeId)(d:TD):Prop:=
 match d with
 | .bool=>P.underlying t=some .bool
 | .int k=>P.underlying t=some (.int k)
 | .str=>P.underlying t=some .string
 | .ptr e=>P.underlying t=some (.pointer e)
 | .slice e=>P.underlying t=some (.slice e)
 | .arr n e=>P.underlying t=some (.array n e)
 | .map k e=>P.underlying t=some (.map k e)
 | .iI fs plain=>∃l,P.underlying t=some (.struct l)/\fs=l.toList.map (λf=>(f.type,f.offset))/\(∀f∈l.toList,∃ti,P.info? f.type=some ti)/\(plain=true->(∀f∈l,f.name ≠ "_")/\P.stoodInHeld t=false/\P.eqGuardType P.depth t=false)
 | .func=>∃a b c,P.underlying t=some (.func a b c)
 | .iface=>∃ms,P.underlying t=some (.interface ms)
 | .xZ=>P.underlying t=some .unsafePointer
 | .other=>True
structure Loc where
 blk:Nat
 off:Nat
 room:Nat
abbrev Env:=K->Option Loc
mutual
inductive aq (η:Env):V->Value->Prop
 | b (x):aq η (.b x) (.bool x)
 | i (k n):aq η (.i k n) (.int k n)
 | s (l n):n<256 ^ l->aq η (.s l n) (.string (strOf l n))
 | np:aq η .np (.pointer none)
 | p (b o L):η b=some L->aq η (.p b o) (.pointer (some ⟨L.blk,L.off+o,none⟩))
 | ns:aq η .ns (.slice none 0 0)
 | sl (b o l c L):η b=some L->aq η (.sl b o l c) (.slice (some ⟨L.blk,L.off+o,none⟩) l c)
 | su (b o l e L c):η b=some L->l<=c->o+c*e<=L.room->aq η (.su b o l e) (.slice (some ⟨L.blk,L.off+o,none⟩) l c)
 | se (b o e A L):η b=some L->aq η (.su b o 0 e) (.slice (some A) 0 0)
 | nm:aq η .nm (.map none)
 | m (b L):η b=some L->aq η (.m b) (.map (some L.blk))
 | nf:aq η .nf .nilFunc
 | f (g a c a' c'):aN η a a'->aN η c c'->aq η (.f g a c) (.func (.func g) ⟨a'⟩ ⟨c'⟩)
 | y (l L):η l=some L->aq η (.y l) (.func (.yield L.blk) #[] #[])
 | ni:aq η .ni .nilIface
 | jM (t v v'):aq η v v'->aq η (.jM t v) (.iface t v')
 | a (l l'):aN η l l'->aq η (.a l) (.agg ⟨l'⟩)
 | u (l l'):aN η l l'->aq η (.u l) (.tuple ⟨l'⟩)
 | q (v):aq η .q v
inductive aN (η:Env):List V->List Value->Prop
 | nil:aN η [] []
 | cons (v v' l l'):aq η v v'->aN η l l'->aN η (v::l) (v'::l')
end
def Env.le(η η':Env):Prop:=∀k L,η k=some L->η' k=some L
def Env.le.refl(η:Env):η.le η:=λ_ _ h=>h
def Env.le.trans{a b c:Env}(h:a.le b)(h':b.le c):a.le c:=λk L e=>h' k L (h k L e)
mutual
theorem aq.mono {η η':Env} (hη:η.le η'):∀{v:V} {x:Value},aq η v x->aq η' v x
 | _,_,.b x=>.b x
 | _,_,.i k n=>.i k n
 | _,_,.s l n h=>.s l n h
 | _,_,.np=>.np
 | _,_,.p b o L h=>.p b o L (hη _ _ h)
 | _,_,.ns=>.ns
 | _,_,.sl b o l c L h=>.sl b o l c L (hη _ _ h)
 | _,_,.su b o l e L c h h1 h2=>.su b o l e L c (hη _ _ h) h1 h2
 | _,_,.se b o e A L h=>.se b o e A L (hη _ _ h)
 | _,_,.nm=>.nm
 | _,_,.m b L h=>.m b L (hη _ _ h)
 | _,_,.nf=>.nf
 | _,_,.f g a c a' c' h h'=>.f g a c a' c' (aN.mono hη h) (aN.mono hη h')
 | _,_,.y l L h=>.y l L (hη _ _ h)
 | _,_,.ni=>.ni
 | _,_,.jM t v v' h=>.jM t v v' (aq.mono hη h)
 | _,_,.a l l' h=>.a l l' (aN.mono hη h)
 | _,_,.u l l' h=>.u l l' (aN.mono hη h)
 | _,_,.q v=>.q v
theorem aN.mono {η η':Env} (hη:η.le η'):∀{v:List V} {x:List Value},aN η v x->aN η' v x
 | _,_,.nil=>.nil
 | _,_,.cons v v' l l' h h'=>.cons v v' l l' (aq.mono hη h) (aN.mono hη h')
end
section lists
variable {η:Env}
def aN.length{l:List V}{l':List Value}(h:aN η l l'):l.length=l'.length:=by
 induction l generalizing l' with
 | nil=>cases h;rfl
 | cons v l ih=>cases h with | cons _ v' _ l' h1 h2=>simp[ih h2]
def aN.get{l:List V}{l':List Value}(h:aN η l l'){i:Nat}{v:V}(hi:l[i]?=some v):∃v',l'[i]?=some v'/\aq η v v':=by
 induction l generalizing l' i with
 | nil=>simp at hi
 | cons a l ih=>
  cases h with
  | cons _ a' _ l' h1 h2=>
   cases i with
   | zero=>simp at hi;subst hi;exact⟨a',by simp,h1⟩
   | succ i=>simp at hi ⊢;exact ih h2 hi
def aN.DF{l:List V}{l':List Value}(b:l.length=l'.length)(h:∀(i:Nat) (v:V),l[i]?=some v->∃v',l'[i]?=some v'/\aq η v v'):aN η l l':=by
 induction l generalizing l' with
 | nil=>cases l' with | nil=>exact .nil | cons=>simp at b
 | cons a l ih=>
  cases l' with
  | nil=>simp at b
  | cons a' l'=>
   obtain⟨v',h1,h2⟩:=h 0 a (by simp);simp at h1;subst h1;exact .cons _ _ _ _ h2 (ih (by simpa using b) λi v hi=>by have:=h (i+1) v (by simpa using hi);simpa using this)
def aN.append{l r:List V}{l' r':List Value}(h:aN η l l')(h':aN η r r'):aN η (l++r) (l'++r'):=by
 induction l generalizing l' with
 | nil=>cases h;exact h'
 | cons a l ih=>cases h with | cons _ a' _ l' h1 h2=>exact .cons _ _ _ _ h1 (ih h2)
def aN.sub{l:List V}{l':List Value}(h:aN η l l')(o n:Nat):aN η ((l.drop o).take n) ((l'.drop o).take n):=by
 refine aN.DF (by simp[h.length]) λi v hi=>?_;rw[List.getElem?_take]at hi ⊢;split at hi
 ·rename_i a;rw[ao a];rw[vL]at hi ⊢;exact h.get hi
 ·cases hi
def aq.one{v:V}{x:Value}(h:aq η v x)(h1:v.one=true):x.pV=true/\x.cells=#[x]/\v.cells=[v]:=by cases h<;>first | (cases h1;done) | exact⟨rfl,rfl,rfl⟩
def aN.one{l:List V}{l':List Value}(h:aN η l l')(h1:aD l=true):∀y∈l',y.pV=true:=by
 induction l generalizing l' with
 | nil=>cases h;simp
 | cons v l ih=>
  cases h with
  | cons _ v' _ l' b hb=>
   simp only[aD,aK]at h1;intro y a;rcases eO.1 a with rfl | a
   ·exact(b.one h1.1).1
   ·exact ih hb h1.2 y a
def aq.cells{v:V}{x:Value}(h:aq η v x)(h1:aD v.cells=true):aN η v.cells x.cells.toList/\∀y∈x.cells.toList,y.pV=true:=by
 by_cases d:v.one=true
 ·obtain⟨a,b,c⟩:=h.one d;rw[b,c];exact⟨.cons _ _ _ _ h .nil,by simpa using a⟩
 ·cases h<;>first | exact absurd rfl d | skip
  case a l l' hl=>exact⟨hl,hl.one h1⟩
  case u l l' hl=>simp[V.cells,aD,V.one]at h1
  case q=>simp[V.cells,aD,V.one]at h1
end lists
def O.mut:O->Bool
 | .c _ _ _ | .b _ _ _ | .mp _ _ | .it _ _ _ | .mi _ _ | .lp _ _ _ _ _ _=>true
 | _=>false
def dJ(η:Env):List (V×V×Nat)->List MapEntry->Prop
 | [],[]=>True
 | (k,v,b)::l,e::l'=>aq η k e.key/\aq η v e.val/\e.born=b/\dJ η l l'
 | _,_=>False
def aM(η:Env)(T:Tr V)(tmps:Array Value):Prop:=∀(t:Nat) (v:V),T.get (bL t)=some v->∃x,tmps[t]?=some x/\aq η v x
def kK:Ex->Option Code
 | .normal=>none
 | .exit id=>some (.exit id)
 | .ret=>some .ret
 | .panic _=>none
def fR(W:Nat->Code->AC->Prop)(η:Env)(o:O)(L:Loc)(x:Option Obj):Prop:=
 match o with
 | .c l e fz=>∃cs fr,x=some (.cells cs e fr)/\L.off+L.room=cs.size/\l.length<=L.room/\(∀(i:Nat) (v:V),l[i]?=some v->∃y,cs[L.off+i]?=some y/\aq η v y)/\(fr.2=fr.1\/fr.2<=L.off+fz)
 | .r l=>∃cs e fr,x=some (.cells cs e fr)/\∀(i:Nat) (v:V),l[i]?=some v->∃y,cs[L.off+i]?=some y/\aq η v y
 | .b p q e=>L.off=0/\∃u v,x=some (.cells #[u,v] e (0,0))/\aq η p u/\aq η q v
 | .mp es c=>∃a,x=some (.map a c)/\dJ η es a.toList
 | .it l n pos=>L.off=0/\x=some (.stringIter (strOf l n) pos)/\n<256 ^ l
 | .mi b since=>L.off=0/\∃Lb,η b=some Lb/\x=some (.mapIter (some Lb.blk) since #[] since)
 | .me m c t=>L.off=0/\∃Lm since seen,η m=some Lm/\x=some (.mapIter (some Lm.blk) since seen c)/\seen.back?=some t
 | .lp ready fA T ps bY body=>∃r,x=some (.loop r)/\(r.state=if ready then .ready else if fA.hU then .busy else .done)/\r.pending=kK fA/\aM η T r.tmps/\ps=r.params.toList.map bL/\mH r.tmps.size r.params.toList=true/\W r.tmps.size r.assign bY/\W r.tmps.size r.body body
def dJ.mono{η η':Env}(hη:η.le η'):∀{l:List (V×V×Nat)} {l':List MapEntry},dJ η l l'->dJ η' l l'
 | [],[],_=>trivial
 | (_,_,_)::_,_::_,⟨a,b,c,d⟩=>⟨a.mono hη,b.mono hη,c,dJ.mono hη d⟩
def aM.mono{η η':Env}(hη:η.le η'){T:Tr V}{t:Array Value}(h:aM η T t):aM η' T t:=
 λk v hv=>let⟨x,h1,h2⟩:=h k v hv;⟨x,h1,h2.mono hη⟩
def fR.mono{W:Nat->Code->AC->Prop}{η η':Env}(hη:η.le η'){o:O}{L:Loc}{x:Option Obj}(h:fR W η o L x):fR W η' o L x:=by
 cases o with
 | c l e fz=>
  obtain⟨cs,fr,h1,h2,d,f,g⟩:=h;exact⟨cs,fr,h1,h2,d,λi v hi=>let⟨y,a,b⟩:=f i v hi;⟨y,a,b.mono hη⟩,g⟩
 | r l=>
  obtain⟨cs,e,fr,h1,f⟩:=h;exact⟨cs,e,fr,h1,λi v hi=>let⟨y,a,b⟩:=f i v hi;⟨y,a,b.mono hη⟩⟩
 | b p q e=>obtain⟨h0,u,v,h1,h2,d⟩:=h;exact⟨h0,u,v,h1,h2.mono hη,d.mono hη⟩
 | mp es c=>obtain⟨j,h1,h2⟩:=h;exact⟨j,h1,h2.mono hη⟩
 | it l n pos=>exact h
 | mi b since=>obtain⟨h0,Lb,h1,h2⟩:=h;exact⟨h0,Lb,hη _ _ h1,h2⟩
 | me m c t=>obtain⟨h0,Lm,since,seen,h1,h2,d⟩:=h;exact⟨h0,Lm,since,seen,hη _ _ h1,h2,d⟩
 | lp ready fA T ps bY body=>obtain⟨r,h1,h2,d,f,g⟩:=h;exact⟨r,h1,h2,d,f.mono hη,g⟩
structure aV(W:Nat->Code->AC->Prop)(η:Env)(H:Hp)(n:K)(w:World):Prop where
 obj:∀k o,H.get k=some o->∃L,η k=some L/\L.blk<w.heap.size/\fR W η o L w.heap[L.blk]?
 sep:∀k k' o o' L L',k≠k'->H.get k=some o->o.mut=true->H.get k'=some o'->η k=some L->η k'=some L'->L.blk≠L'.blk
 free:∀k,n.num<=k.num->η k=none
def lz(η:Env)(H:Hp)(m:Bool)(b:Nat):Prop:=∃k o L,H.get k=some o/\(m=true->o.mut=true)/\η k=some L/\L.blk=b
structure Kept(F:Nat->Prop)(w w':World):Prop where
 os:w'.os=w.os
 tape:w'.tape=w.tape
 output:w'.output=w.output
 size:w.heap.size<=w'.heap.size
 block:∀b,b<w.heap.size->¬ F b->w'.heap[b]?=w.heap[b]?
 loops:∀(b:Nat) (r:Go.Loop),w.heap[b]?=some (.loop r)->∃r',w'.heap[b]?=some (.loop r')
structure Trans(W:Nat->Code->AC->Prop)(η:Env)(H:Hp)(n:K)(w:World)(η':Env)(H':Hp)(n':K)(w':World):Prop where
 ext:η.le η'
 le:n.num<=n'.num
 rep:aV W η' H' n' w'
 kept:Kept (lz η H true) w w'
 jN:∀m b,lz η' H' m b->lz η H m b\/w.heap.size<=b
 bu:∀k,k.num<n.num->η' k=η k
def Kept.refl(F:Nat->Prop)(w:World):Kept F w w:=⟨rfl,rfl,rfl,φ _,λ_ _ _=>rfl,λ_ r h=>⟨r,h⟩⟩
section trans
variable {W:Nat->Code->AC->Prop}{η η' Nn:Env}{H H' oz:Hp}{n n' ma:K}{w w' tH:World}
def Trans.refl(h:aV W η H n w):Trans W η H n w η H n w:=⟨.refl _,φ _,h,.refl _ _,λ_ _ h=>.inl h,λ_ _=>rfl⟩
def Trans.trans(h:Trans W η H n w η' H' n' w')(k:Trans W η' H' n' w' Nn oz ma tH):Trans W η H n w Nn oz ma tH where
 ext:=h.ext.trans k.ext
 le:=dU h.le k.le
 rep:=k.rep
 kept:=
  {os:=k.kept.os.trans h.kept.os
   tape:=k.kept.tape.trans h.kept.tape
   output:=k.kept.output.trans h.kept.output
   size:=dU h.kept.size k.kept.size
   block:=λb hb a=>by
    rw[k.kept.block b (ep hb h.kept.size) λd=>?_,h.kept.block b hb a];rcases h.jN _ _ d with h1 | h1
    ·exact a h1
    ·omega
   loops:=λb r hb=>let⟨r',h1⟩:=h.kept.loops b r hb;k.kept.loops b r' h1}
 jN:=λm b hb=>by
  rcases k.jN m b hb with h1 | h1
  ·exact h.jN m b h1
  ·exact .inr (dU h.kept.size h1)
 bu:=λq c=>by rw[k.bu q (ep c h.le),h.bu q c]
def aV.drawn(h:aV W η H n w)(d:Nat):aV W η H n { w with drawn:=d}:=⟨h.obj,h.sep,h.free⟩
def Trans.drawn(h:Trans W η H n w η' H' n' w')(d:Nat):Trans W η H n w η' H' n' { w' with drawn:=d}:=
 ⟨h.ext,h.le,h.rep.drawn d,⟨h.kept.os,h.kept.tape,h.kept.output,h.kept.size,h.kept.block,h.kept.loops⟩,h.jN,h.bu⟩
def aV.less(h:aV W η H n w)(hs:∀k o,H'.get k=some o->H.get k=some o):aV W η H' n w:=
 ⟨λk o a=>h.obj k o (hs k o a),λk k' o o' L L' b a hm c=>h.sep k k' o o' L L' b (hs _ _ a) hm (hs _ _ c),h.free⟩
def aV.vX(h:aV W η H n w){k:K}{o:O}(b:H.get k=some o):k.num<n.num:=by
 rcases iG k.num n.num with h1 | h1
 ·exact h1
 ·obtain⟨L,a,_⟩:=h.obj k o b;rw[h.free k h1]at a;cases a
def Trans.new(h:aV W η H n w){o:O}{ob:Obj}{room:Nat}(p:∀η',η.le η'->fR W η' o ⟨w.heap.size,0,room⟩ (some ob)):
 ∃η',Trans W η H n w η' (H.put (some o) n) n.succ { w with heap:=w.heap.push ob}/\η' n=some ⟨w.heap.size,0,room⟩:=by
 have q:η n=none:=h.free n (φ _);let η':Env:=λk=>if k=n then some ⟨w.heap.size,0,room⟩ else η k
 have hle:η.le η':=λk L a=>by
  show(if k=n then _ else η k)=_
  rw[Θ (λe=>by rw[e,q]at a;cases a)];exact a
 have i:η' n=some ⟨w.heap.size,0,room⟩:=ao rfl;have hold:∀k,k≠n->η' k=η k:=λk a=>Θ a;refine⟨η',⟨hle,by rw[K.eF];omega,⟨?_,?_,?_⟩,⟨rfl,rfl,rfl,by simp,λb hb _=>by simp[xO];omega,λb r hb=>⟨r,by
  have t:=(mB.1 hb).1;show(w.heap.push ob)[b]?=_;rw[xO,Θ (by omega)];exact hb⟩⟩,?_,λk a=>hold k λe=>by rw[e]at a;omega⟩,i⟩
 ·intro k o' a;rw[Tr.eL]at a;by_cases d:k=n
  ·rw[ao d]at a;injection a with a;subst a;subst d;exact⟨_,i,by simp,by simpa using p η' hle⟩
  ·rw[Θ d]at a;obtain⟨L,h1,h2,s⟩:=h.obj k o' a;refine⟨L,by rw[hold k d];exact h1,by simp;omega,?_⟩;have:(w.heap.push ob)[L.blk]?=w.heap[L.blk]?:=by rw[xO,Θ (by omega)]
   rw[this];exact s.mono hle
 ·intro k k' o1 o2 L1 L2 l a hm j c f;rw[Tr.eL]at a j;by_cases d:k=n
  ·have g:k'≠n:=λe=>l (d.trans e.symm);rw[Θ g]at j;obtain⟨L,h1,h2,_⟩:=h.obj k' o2 j;rw[hold k' g,h1]at f;injection f with f;rw[d,i]at c;injection c with c;rw[←c,←f];simp;omega
  ·rw[Θ d]at a;obtain⟨L,h1,h2,_⟩:=h.obj k o1 a;rw[hold k d,h1]at c;injection c with c;by_cases g:k'=n
   ·rw[g,i]at f;injection f with f;rw[←c,←f];simp;omega
   ·rw[Θ g]at j;rw[hold k' g]at f;rw[←c];exact h.sep k k' o1 o2 L L2 l a hm j h1 f
 ·intro k a;rw[K.eF]at a;have:k≠n:=λe=>by rw[e]at a;omega
  rw[hold k this];exact h.free k (by omega)
 ·rintro m b ⟨k,o',L,a,hm,c,hb⟩;rw[Tr.eL]at a;by_cases d:k=n
  ·rw[d,i]at c;injection c with c;right;rw[←hb,←c];exact φ _
  ·rw[Θ d]at a;rw[hold k d]at c;exact .inl ⟨k,o',L,a,hm,c,hb⟩
def O.Al:O->Bool
 | .lp _ _ _ _ _ _=>true
 | _=>false
def XE(h:aV W η H n w){k:K}{o o':O}{L:Loc}{ob:Obj}(f:H.get k=some o)(g:η k=some L)(i:fR W η o' L (some ob))(hl:o.Al=o'.Al)
 (b:Nat)(r:Go.Loop)(hb:w.heap[b]?=some (.loop r)):∃r',(w.heap.setIfInBounds L.blk ob)[b]?=some (.loop r'):=by
 rw[fx];by_cases e:L.blk=b
 ·obtain⟨L0,d,j,a⟩:=h.obj k o f;rw[g]at d;injection d with d;subst d;rw[ao e,ao j];rw[e,hb]at a;cases o with
  | lp _ _ _ _ _ _=>
   cases o' with
   | lp _ _ _ _ _ _=>obtain⟨r',h1,_⟩:=i;exact⟨r',h1⟩
   | _=>cases hl
  | c _ _ _=>obtain⟨_,_,h1,_⟩:=a;cases h1
  | r _=>obtain⟨_,_,_,h1,_⟩:=a;cases h1
  | mp _ _=>obtain⟨_,h1,_⟩:=a;cases h1
  | mi _ _=>obtain⟨_,_,_,h1⟩:=a;cases h1
  | me _ _ _=>obtain⟨_,_,_,_,_,h1,_⟩:=a;cases h1
  | it _ _ _=>obtain⟨_,h1,_⟩:=a;cases h1
  | b _ _ _=>obtain⟨_,_,_,h1,_⟩:=a;cases h1
 ·rw[Θ e];exact⟨r,hb⟩
def Trans.write(h:aV W η H n w){k:K}{o o':O}{L:Loc}{ob:Obj}(d:H.get k=some o)(hm:o.mut=true)(f:η k=some L)
 (r:fR W η o' L (some ob)){w':World}(t:w'={ w with heap:=w.heap.setIfInBounds L.blk ob})(hl:o.Al=o'.Al:=by rfl):
 Trans W η H n w η (H.put (some o') k) n w':=by
 subst t;obtain⟨L0,i,s,_⟩:=h.obj k o d;rw[f]at i;injection i with i;subst i;refine⟨.refl _,φ _,⟨?_,?_,h.free⟩,⟨rfl,rfl,rfl,by simp,λb hb u=>?_,XE h d f r hl⟩,?_,λ_ _=>rfl⟩
 ·intro k' o1 a;rw[Tr.eL]at a;by_cases e:k'=k
  ·rw[ao e]at a;injection a with a;subst a;subst e;exact⟨L,f,by simpa using s,by simpa[fx,s]using r⟩
  ·rw[Θ e]at a;obtain⟨L1,h1,h2,v⟩:=h.obj k' o1 a;refine⟨L1,h1,by simpa using h2,?_⟩;have j:=h.sep k k' o o1 L L1 (λx=>e x.symm) d hm a f h1;rw[fx,Θ j];exact v
 ·intro k1 k2 o1 o2 L1 L2 j h1 l h2 c p;rw[Tr.eL]at h1 h2;by_cases q:k1=k
  ·have g:k2≠k:=λe=>j (q.trans e.symm);rw[Θ g]at h2;rw[q]at c;exact h.sep k k2 o o2 L1 L2 (λe=>g e.symm) d hm h2 c p
  ·rw[Θ q]at h1;by_cases g:k2=k
   ·rw[g]at p;exact h.sep k1 k o1 o L1 L2 q h1 l d c p
   ·rw[Θ g]at h2;exact h.sep k1 k2 o1 o2 L1 L2 j h1 l h2 c p
 ·rw[fx,Θ];intro e;exact u ⟨k,o,L,d,λ_=>hm,f,e⟩
 ·rintro m b ⟨k',o1,L1,a,l,c,hb⟩;rw[Tr.eL]at a;by_cases e:k'=k
  ·rw[e,f]at c;injection c with c;exact .inl ⟨k,o,L,d,λ_=>hm,f,by rw[c];exact hb⟩
  ·rw[Θ e]at a;exact .inl ⟨k',o1,L1,a,l,c,hb⟩
end trans
end
section
def kL(c:Array Value)(o:Nat):List Value->Array Value
 | []=>c
 | v::l=>kL (c.setIfInBounds o v) (o+1) l
def DG(c:Array Value)(o:Nat)(l:List Value):(kL c o l).size=c.size:=by
 induction l generalizing c o with
 | nil=>rfl
 | cons v l ih=>simp[kL,ih]
def DH(c:Array Value)(o:Nat)(l:List Value)(h:o+l.length<=c.size)(j:Nat):
 (kL c o l)[j]?=if o<=j/\j<o+l.length then l[j - o]? else c[j]?:=by
 induction l generalizing c o with
 | nil=>simp only[kL,jy];rw[Θ (by omega)]
 | cons v l ih=>
  simp only[dy]at h;simp only[kL];rw[ih _ _ (by simp;omega)];by_cases h1:o+1<=j/\j<o+1+l.length
  ·rw[ao h1,ao (by simp;omega)];have:j - o=(j - (o+1))+1:=by omega
   rw[this];simp
  ·rw[Θ h1,fx];by_cases h2:o=j
   ·subst h2;rw[ao rfl,ao (by omega),ao (by simp)];simp
   ·rw[Θ h2,Θ (by simp only[dy];omega)]
def DI{w:World}{b o:Nat}{c:Array Value}{e:TypeId}{fr:Nat×Nat}(h:w.heap[b]?=some (.cells c e fr)):
 w.cell? ⟨b,o,none⟩=c[o]?:=by simp[World.cell?,h]
def XF{w:World}{b o:Nat}{c:Array Value}{e:TypeId}{fr:Nat×Nat}(h:w.heap[b]?=some (.cells c e fr)):
 w.frozen? ⟨b,o,none⟩=(decide (fr.1<=o)&&decide (o<fr.2)):=by
 obtain⟨lo,hi⟩:=fr;simp[World.frozen?,h]
def XG{w:World}{b o:Nat}{c:Array Value}{e:TypeId}{fr:Nat×Nat}(h:w.heap[b]?=some (.cells c e fr))(v:Value):
 w.setCell ⟨b,o,none⟩ v={ w with heap:=w.heap.setIfInBounds b (.cells (c.setIfInBounds o v) e fr)}:=by
 have hb:b<w.heap.size:=by
  rcases iG b w.heap.size with h1 | h1
  ·exact h1
  ·rw[Array.getElem?_eq_none h1]at h;cases h
 have a:w.heap[b]=.cells c e fr:=by rw[lI hb]at h;injection h
 simp only[World.setCell];congr 1;apply Array.ext_getElem?;intro i;rw[Array.getElem?_modify,fx];by_cases hi:b=i
 ·subst hi;simp[hb,a]
 ·rw[Θ hi,Θ hi]
def pX(b o n:Nat):(⟨b,o,none⟩:Addr).add n=⟨b,o+n,none⟩:=by
 unfold Addr.add;split
 ·rename_i h;simp[h]
 ·rfl
section XH
variable {P:Program}{w:World}
def XI{b o:Nat}{c:Array Value}{e:TypeId}{fr:Nat×Nat}(h:w.heap[b]?=some (.cells c e fr))(n i:Nat)(acc:Array Value)
 (f:o+i+n<=c.size):aP P (loadCellsFrom ⟨b,o,none⟩ i n acc) w λr w'=>r=acc++((c.toList.drop (o+i)).take n).toArray/\w'=w:=by
 induction n generalizing i acc with
 | zero=>exact ai ⟨by simp,rfl⟩
 | succ n ih=>
  have a:o+i<c.size:=by omega
  refine Δ ?_;rw[pX];refine GS (v:=c[o+i]) (by rw[DI h,lI a]) ?_;refine(ih (i+1) (acc.push c[o+i]) (by omega)).mono ?_;rintro r w' ⟨rfl,rfl⟩;refine⟨?_,rfl⟩;have d:c.toList.drop (o+i)=c[o+i]::c.toList.drop (o+i+1):=by rw[eo (by simpa using a)];simp
  rw[d,mD];apply iY;simp[j3]
def Np{b o:Nat}{c:Array Value}{e:TypeId}{fr:Nat×Nat}(h:w.heap[b]?=some (.cells c e fr))(n:Nat)
 (a:o+n<=c.size):aP P (loadCells ⟨b,o,none⟩ n) w λr w'=>r=((c.toList.drop o).take n).toArray/\w'=w:=
 (XI h n 0 #[] (by omega)).mono λr w' ⟨h1,h2⟩=>⟨by simpa using h1,h2⟩
def GX{b o:Nat}{c:Array Value}{e:TypeId}{fr:Nat×Nat}(vs:List Value)(i:Nat)(h:w.heap[b]?=some (.cells c e fr))
 (d:o+i+vs.length<=c.size)(hf:fr.2<=fr.1\/fr.2<=o+i)(h1:∀v∈vs,v.pV=true):
 aP P (storeCells ⟨b,o,none⟩ vs i) w λ_ w'=>w'={ w with heap:=w.heap.setIfInBounds b (.cells (kL c (o+i) vs) e fr)}:=by
 induction vs generalizing i c w with
 | nil=>
  refine ai ?_;have:w.heap.setIfInBounds b (.cells c e fr)=w.heap:=by
   apply Array.ext_getElem?;intro j;rw[fx];by_cases hj:b=j
   ·subst hj;rw[ao rfl];split
    ·exact h.symm
    ·rename_i a;rw[Array.getElem?_eq_none (by omega)]at h;cases h
   ·rw[Θ hj]
  simp only[kL,this]
 | cons v vs ih=>
  simp only[dy]at d;have f:o+i<c.size:=by omega
  have hb:b<w.heap.size:=by
   rcases iG b w.heap.size with h2 | h2
   ·exact h2
   ·rw[Array.getElem?_eq_none h2]at h;cases h
  refine Δ ?_;rw[pX];refine XD (h1 v (by simp)) (v0:=c[o+i]) (by rw[DI h,lI f]) ?_ ?_
  ·rw[XF h];simp;omega
  ·rw[XG h];refine(ih (w:={ w with heap:=w.heap.setIfInBounds b (.cells (c.setIfInBounds (o+i) v) e fr)}) (c:=c.setIfInBounds (o+i) v) (i+1)
    (by simp[fx,hb]) (by simp;omega) (by omega) (λx a=>h1 x (by simp[a]))).mono ?_
   rintro _ w' rfl;simp[kL,j3]
end XH
structure sg(P:Program)(t:TypeId)(i:TI):Prop where
 desc:GV P t i.desc
 info:∃ti z,P.info? t=some ti/\ti.size=i.size/\ti.bytes=i.bytes/\ti.zero=some z/\uh z.cells.toList=some i.zero/\(i.desc.agg=true->∃l,z=.agg l)/\(i.desc.agg=false->z.pV=true)/\i.zero.length=i.size/\aD i.zero=true
 other:i.desc=.other->∃d,P.underlying t=some d/\(∀fs,d≠.struct fs)/\(∀n e,d≠.array n e)
structure cU(P:Program)(ty:Ty):Prop where
 ok:∀t i,ty t=some i->sg P t i
 XJ:(P.info? ty.b).map (·.size)=some 2
 XK:liesAt P P.depth ty.b (2 / P.cellsOf ty.b) 0 ty.b 1=true
section types
variable {P:Program}{w:World}
def a0{t:TypeId}{d:TypeDesc}{Φ:TypeDesc->World->Prop}(h:P.underlying t=some d)(k:Φ d w):aP P (underlying t) w Φ:=by refine Δ (Ak ?_);simp only[h];exact ai k
def uu{t:TypeId}{i:TypeInfo}{Φ:TypeInfo->World->Prop}(h:P.info? t=some i)(k:Φ i w):aP P (typeInfo t) w Φ:=by refine Δ (Ak ?_);simp only[h];exact ai k
def kM{t:TypeId}{i:TI}{Φ:Nat->World->Prop}(h:sg P t i)(k:Φ i.size w):aP P (sizeOf t) w Φ:=by obtain⟨ti,z,h1,h2,_⟩:=h.info;exact Δ (uu h1 (ai (h2▸k)))
def Nq{t:TypeId}{i:TI}{Φ:Bool->World->Prop}(h:sg P t i)(k:Φ i.desc.agg w):aP P (isAgg t) w Φ:=by
 have a:=h.desc;have b:=h.other;obtain⟨d,sz,f,g⟩:=i;cases d with
 | iI fs plain=>obtain⟨l,h1,_⟩:=a;exact Δ (a0 h1 (ai k))
 | arr n e=>exact Δ (a0 a (ai k))
 | other=>
  obtain⟨d,h1,h2,c⟩:=b rfl;refine Δ (a0 h1 ?_);cases d<;>first | exact absurd rfl (h2 _) | exact absurd rfl (c _ _) | exact ai k
 | func=>obtain⟨_,_,_,h1⟩:=a;exact Δ (a0 h1 (ai k))
 | iface=>obtain⟨_,h1⟩:=a;exact Δ (a0 h1 (ai k))
 | bool=>exact Δ (a0 a (ai k))
 | int _=>exact Δ (a0 a (ai k))
 | str=>exact Δ (a0 a (ai k))
 | ptr _=>exact Δ (a0 a (ai k))
 | xZ=>exact Δ (a0 a (ai k))
 | slice _=>exact Δ (a0 a (ai k))
 | map _ _=>exact Δ (a0 a (ai k))
mutual
theorem GY (η:Env):∀{x:Value} {v:V},fD x=some v->aq η v x
 | .bool b,v,h=>by simp only[fD]at h;injection h with h;subst h;exact .b _
 | .int k n,v,h=>by simp only[fD]at h;injection h with h;subst h;exact .i _ _
 | .string s,v,h=>by simp only[fD]at h;injection h with h;subst h;have h1:=XB s.data.toList;have h2:=Nl s;have:aq η (.s s.size (aT s.data.toList)) (.string (strOf s.size (aT s.data.toList))):=.s _ _ (by simpa using h1);rw[h2]at this;exact this
 | .pointer none,v,h=>by simp only[fD]at h;injection h with h;subst h;exact .np
 | .slice none 0 0,v,h=>by simp only[fD]at h;injection h with h;subst h;exact .ns
 | .map none,v,h=>by simp only[fD]at h;injection h with h;subst h;exact .nm
 | .func (.func f) ⟨[]⟩ ⟨[]⟩,v,h=>by simp only[fD]at h;injection h with h;subst h;exact .f _ _ _ _ _ .nil .nil
 | .nilFunc,v,h=>by simp only[fD]at h;injection h with h;subst h;exact .nf
 | .nilIface,v,h=>by simp only[fD]at h;injection h with h;subst h;exact .ni
 | .iface t x,v,h=>by
  simp only[fD]at h;split at h
  ·rename_i v' hv;injection h with h;subst h;exact .jM _ _ _ (GY η hv)
  ·cases h
 | .agg ⟨l⟩,v,h=>by
  simp only[fD]at h;split at h
  ·rename_i v' hv;injection h with h;subst h;exact .a _ _ (si η hv)
  ·cases h
 | .tuple ⟨l⟩,v,h=>by
  simp only[fD]at h;split at h
  ·rename_i v' hv;injection h with h;subst h;exact .u _ _ (si η hv)
  ·cases h
 | .float ..,_,h=>by simp[fD]at h
 | .complex ..,_,h=>by simp[fD]at h
 | .pointer (some _),_,h=>by simp[fD]at h
 | .slice (some _) _ _,_,h=>by simp[fD]at h
 | .slice none (_+1) _,_,h=>by simp[fD]at h
 | .slice none 0 (_+1),_,h=>by simp[fD]at h
 | .map (some _),_,h=>by simp[fD]at h
 | .chan _,_,h=>by simp[fD]at h
 | .func (.method _) _ _,_,h=>by simp[fD]at h
 | .func (.methodOf _ _) _ _,_,h=>by simp[fD]at h
 | .func (.via _ _ _ _) _ _,_,h=>by simp[fD]at h
 | .func (.yield _) _ _,_,h=>by simp[fD]at h
 | .func (.func _) ⟨_::_⟩ _,_,h=>by simp[fD]at h
 | .func (.func _) ⟨[]⟩ ⟨_::_⟩,_,h=>by simp[fD]at h
theorem si (η:Env):∀{x:List Value} {v:List V},uh x=some v->aN η v x
 | [],v,h=>by simp only[uh]at h;injection h with h;subst h;exact .nil
 | x::l,v,h=>by
  simp only[uh]at h;split at h
  ·rename_i v1 l1 hv hl;injection h with h;subst h;exact .cons _ _ _ _ (GY η hv) (si η hl)
  ·cases h
end
def pY{t:TypeId}{i:TI}{Φ:Value->World->Prop}(h:sg P t i)
 (k:∀z,(∀η,aN η i.zero z.cells.toList)->(∀η,aq η i.zeroV z)->(∀y∈z.cells.toList,y.pV=true)->z.cells.size=i.size->Φ z w):aP P (zeroValue t) w Φ:=by
 obtain⟨ti,z,h1,h2,q,f,c,g,j,m,n⟩:=h.info;refine Δ (uu h1 ?_);simp only[f];refine ai (k z (λη=>si η c) (λη=>?_) ?_ ?_)
 ·unfold TI.zeroV;cases e:i.desc.agg with
  | true=>
   obtain⟨l,rfl⟩:=g e;obtain⟨l⟩:=l;exact .a _ _ (si η c)
  | false=>
   have o:=j e;have p:z.cells=#[z]:=by cases z<;>first | rfl | (simp[Value.pV]at o)
   have d:=si η c;rw[p]at d;generalize i.zero=zs at d;cases d with
   | cons v v' l l' a b=>cases b;exact a
 ·exact(si (λ_=>none) c).one n
 ·rw[←m,(si (λ_=>none) c).length];simp
end types
end
section
def an(tmps:Array Value):Operand->Value
 | .tmp t=>tmps.getD t undef
 | .const v=>v
 | .global g=>.pointer (some ⟨g,0,none⟩)
 | .func f=>.func (.func f) #[] #[]
def bD(η:Env)(G:Nat):Prop:=∀g,g<G->∃L,η (bL g)=some L/\L.blk=g/\L.off=0
def bD.mono{η η':Env}{G:Nat}(h:bD η G)(hη:η.le η'):bD η' G:=λg c=>let⟨L,a,b⟩:=h g c;⟨L,hη _ _ a,b⟩
def eB(P:Program)(W:Nat->Code->AC->Prop)(η:Env)(H:Hp)(n:K)(w:World)(s:Sem Next)(v:V)(H':Hp)(n':K):Prop:=
 aP P s w λx w'=>∃η',Trans W η H n w η' H' n' w'/\((∃y,x=.value y/\aq η' v y)\/(x=.skip/\v=.u []))
section ops
variable {P:Program}{ty:Ty}{W:Nat->Code->AC->Prop}{η:Env}{T:Tr V}{H H':Hp}{n n':K}{w:World}{tmps:Array Value}{v:V}
def bQ(b:aM η T tmps)(d:bD η ty.g){x:Operand}{a:au}{v:V}(h:br ty x=some a)(hv:az T a=some v):aq η v (an tmps x):=by
 cases x with
 | tmp t=>
  simp only[br]at h;injection h with h;subst h;obtain⟨y,h1,h2⟩:=b t v hv;show aq η v (tmps.getD t undef);rw[tT,h1];exact h2
 | const c=>
  simp only[br]at h;split at h
  ·rename_i v' e;injection h with h;subst h;simp only[az]at hv;injection hv with hv;subst hv;exact GY η e
  ·cases h
 | global g=>
  simp only[br]at h;cases hb:Nat.blt g ty.g with
  | false=>rw[hb]at h;cases h
  | true=>
   rw[hb]at h;injection h with h;subst h;simp only[az]at hv;injection hv with hv;subst hv;obtain⟨L,h1,h2,i⟩:=d g (by have:g+1<=ty.g:=kH hb;omega);have:=aq.p (η:=η) (bL g) 0 L h1;rw[h2,i]at this;exact this
 | func f=>
  simp only[br]at h;injection h with h;subst h;simp only[az]at hv;injection hv with hv;subst hv;exact .f _ _ _ _ _ .nil .nil
def yc(b:aM η T tmps)(c:bD η ty.g){l:List Operand}{bY:List au}{vs:List V}(h:nJ ty l=some bY)(hv:eE T bY=some vs):
 aN η vs (l.map (an tmps)):=by
 induction l generalizing bY vs with
 | nil=>
  simp only[nJ]at h;injection h with h;subst h;simp only[eE]at hv;injection hv with hv;subst hv;exact .nil
 | cons x l ih=>
  simp only[nJ]at h;split at h
  ·rename_i a i d has;injection h with h;subst h;simp only[eE]at hv;split at hv
   ·rename_i v' j e f;injection hv with hv;subst hv;exact .cons _ _ _ _ (bQ b c d e) (ih has f)
   ·cases hv
  ·cases h
def jO{x:Option V}(h:cW H n x=some (v,H',n')):x=some v/\H'=H/\n'=n:=by
 cases x with
 | none=>cases h
 | some y=>simp only[cW]at h;injection h with h;injection h with h1 h2;injection h2 with h2 a;exact⟨by rw[h1],h2.symm,a.symm⟩
def fG{s:Sem Value}(h:aP P s w λy w'=>∃η',Trans W η H n w η' H' n' w'/\aq η' v y):eB P W η H n w (do pure (.value (←s))) v H' n':=
 Δ (h.mono λy _ ⟨η',a,b⟩=>ai ⟨η',a,.inl ⟨y,rfl,b⟩⟩)
def XL{s:Sem Unit}(h:aP P s w λ_ w'=>∃η',Trans W η H n w η' H' n' w'):eB P W η H n w (do s;pure .skip) (.u []) H' n':=
 Δ (h.mono λ_ _ ⟨η',a⟩=>ai ⟨η',a,.inr ⟨rfl,rfl⟩⟩)
def LG{y:Value}(a:aV W η H n w)(h:aq η v y):eB P W η H n w (pure (.value y)) v H n:=
 ai ⟨η,.refl a,.inl ⟨y,rfl,h⟩⟩
def Nr(f:aV W η H n w){b:K}{l:List V}(h:rowAt H b=some l):
 ∃L cs e fr,η b=some L/\w.heap[L.blk]?=some (.cells cs e fr)/\∀(i:Nat) (v:V),l[i]?=some v->∃y,cs[L.off+i]?=some y/\aq η v y:=by
 unfold rowAt at h;split at h
 ·rename_i o g;obtain⟨L,h1,h2,c⟩:=f.obj b o g;cases o<;>first | (simp[O.row]at h;done) | skip
  ·simp only[O.row]at h;injection h with h;subst h;obtain⟨cs,fr,a,_,_,d,_⟩:=c;exact⟨L,cs,_,fr,h1,a,d⟩
  ·simp only[O.row]at h;injection h with h;subst h;obtain⟨cs,e,fr,a,d⟩:=c;exact⟨L,cs,e,fr,h1,a,d⟩
  ·simp only[O.row]at h;injection h with h;subst h;obtain⟨h0,u,q,a,j,k⟩:=c;refine⟨L,#[u,q],_,_,h1,a,λi v hi=>?_⟩;rw[h0,eW];rcases i with _ | _ | i
   ·simp at hi;subst hi;exact⟨u,rfl,j⟩
   ·simp at hi;subst hi;exact⟨q,rfl,k⟩
   ·simp at hi
 ·cases h
def GZ(f:aV W η H n w){b:K}{l r:List V}{o z:Nat}(h:rowAt H b=some l)(g:ch l o z=some r):
 ∃L cs e fr,η b=some L/\w.heap[L.blk]?=some (.cells cs e fr)/\(z=0\/L.off+o+z<=cs.size)/\aN η r ((cs.toList.drop (L.off+o)).take z):=by
 obtain⟨L,cs,e,fr,h1,h2,d⟩:=Nr f h;obtain⟨rfl,k⟩:=mJ g;have a:z=0\/L.off+o+z<=cs.size:=by
  cases z with
  | zero=>exact .inl U
  | succ z=>
   right;obtain⟨y,c,_⟩:=d (o+z) l[o+z] (by rw[df (by omega)]);have:=(mB.1 c).1;omega
 refine⟨L,cs,e,fr,h1,h2,a,?_⟩;refine aN.DF ?_ λi v hi=>?_
 ·rw[ot,ot,qZ,qZ];rcases a with rfl | a
  ·simp
  ·simp;omega
 ·rw[List.getElem?_take]at hi ⊢;split at hi
  ·rename_i j;rw[ao j];rw[vL]at hi ⊢;obtain⟨y,c,hv⟩:=d _ _ hi;refine⟨y,?_,hv⟩;rw[lJ];rw[show L.off+o+i=L.off+(o+i) by omega];exact c
  ·cases hi
def Ns{t:TypeId}{i:TI}(hi:sg P t i)(f:aV W η H n w){a:V}{A:Addr}(k:aq η a (.pointer (some A)))(h:rO H i.desc.agg i.size a=some v):
 aP P (loadVar t A) w λy w'=>aq η v y/\w'=w:=by
 unfold rO at h;split at h
 ·rename_i b o;split at h
  ·rename_i l hl;cases k with
   | p b o L g=>
    refine Δ (Nq hi ?_);cases j:i.desc.agg with
    | true=>
     rw[j]at h;simp only[cond_true]at h;split at h
     ·rename_i r m;injection h with h;subst h;obtain⟨L',cs,e,fr,h1,h2,c,d⟩:=GZ f hl m;rw[g]at h1;injection h1 with h1;subst h1;simp only[if_true];refine Δ (kM hi ?_);refine Δ ?_;rcases c with c | c
      ·rw[c];exact ai (ai ⟨by rw[c]at d;simpa using aq.a _ _ d,rfl⟩)
      ·refine(Np h2 i.size c).mono ?_;rintro r' w' ⟨rfl,rfl⟩;exact ai ⟨.a _ _ d,rfl⟩
     ·cases h
    | false=>
     rw[j]at h;simp only[cond_false]at h;rw[nK]at h;obtain⟨L',cs,e,fr,h1,h2,c⟩:=Nr f hl;rw[g]at h1;injection h1 with h1;subst h1;obtain⟨y,q,hv⟩:=c o v h;simp only[vI,if_false];exact GS (by rw[DI h2];exact q) ⟨hv,rfl⟩
  ·cases h
 ·cases h
def XM(aE:cU P ty)(e:aM η T tmps)(f:bD η ty.g)(d:aV W η H n w){t:TypeId}{x:Operand}{a:A}(b:dc ty (.load t x)=some a)
 (hs:simple a T H n=some (v,H',n')):eB P W η H n w (do pure (.value (←Instr.loadAt t (an tmps x)))) v H' n':=by
 simp only[dc]at b;split at b
 ·rename_i i l hi h;injection b with b;subst b;simp only[simple]at hs;split at hs
  ·rename_i a j;obtain⟨h1,rfl,rfl⟩:=jO hs;have c:=bQ e f h j;have hp:∃A,an tmps x=.pointer (some A):=by
    unfold rO at h1;split at h1
    ·generalize an tmps x=y at c;cases c;exact⟨_,rfl⟩
    ·cases h1
   obtain⟨A,k⟩:=hp;rw[k]at c ⊢;refine fG (Δ (ai ((Ns (aE.ok _ _ hi) d c h1).mono ?_)));rintro y w' ⟨h2,rfl⟩;exact⟨η,.refl d,h2⟩
  ·cases hs
 ·cases b
def DJ(d:aV W η H n w){b:K}{o:Nat}{vs:List V}{xs:List Value}(hv:aN η vs xs)(h:fB H b o vs=some H'):
 ∃L,η b=some L/\aP P (storeCells ⟨L.blk,L.off+o,none⟩ xs) w λ_ w'=>Trans W η H n w η H' n w':=by
 unfold fB at h;split at h
 ·rename_i l e fz a;cases hb:(Nat.ble fz o&&aD vs) with
  | false=>rw[hb]at h;cases h
  | true=>
   rw[hb]at h;simp only[cond_true]at h;split at h
   ·rename_i l' hl;injection h with h;subst h;rw[aK]at hb;have M:fz<=o:=kH hb.1;obtain⟨L,h1,h2,cs,fr,f,g,t,D,E⟩:=d.obj b _ a;obtain⟨g1,B,j⟩:=GQ hl;refine⟨L,h1,?_⟩;have k:L.off+o+0+xs.length<=cs.size:=by rw[←hv.length];omega
    refine(GX xs 0 f k (by omega) (hv.one hb.2)).mono ?_;rintro _ w' rfl;refine Trans.write d a rfl h1 ?_ rfl;refine⟨_,fr,rfl,by rw[DG];exact g,by omega,λi v hi=>?_,E⟩;rw[DH _ _ _ (by omega)];rw[j]at hi;by_cases c:o<=i/\i<o+vs.length
    ·rw[ao c]at hi;rw[ao (by rw[←hv.length];omega)];have:=hv.get hi;rw[show L.off+i - (L.off+o+0)=i - o by omega];exact this
    ·rw[Θ c]at hi;rw[Θ (by rw[←hv.length];omega)];exact D i v hi
   ·cases h
 ·rename_i x y e a;cases hb:aD vs with
  | false=>rw[hb]at h;cases h
  | true=>
   rw[hb]at h;simp only[cond_true]at h;split at h
   ·rename_i m p hl;injection h with h;subst h;obtain⟨L,h1,h2,h0,u,q,f,g,t⟩:=d.obj b _ a;obtain⟨g1,B,j⟩:=GQ hl;refine⟨L,h1,?_⟩;have k:L.off+o+0+xs.length<=(#[u,q]:Array Value).size:=by
     rw[←hv.length,h0];simp at B ⊢;omega
    refine(GX xs 0 f k (by simp) (hv.one hb)).mono ?_;rintro _ w' rfl;refine Trans.write (o':=.b m p e) d a rfl h1 ?_ rfl;have C:(kL #[u,q] (L.off+o+0) xs).size=2:=by rw[DG];rfl
    have get:∀(i:Nat) (v:V),[m,p][i]?=some v->∃z,(kL #[u,q] (L.off+o+0) xs)[i]?=some z/\aq η v z:=by
     intro i v hi;rw[DH _ _ _ (by omega)];rw[j]at hi;by_cases c:o<=i/\i<o+vs.length
     ·rw[ao c]at hi;rw[ao (by rw[←hv.length];omega)];have:=hv.get hi;rw[show i - (L.off+o+0)=i - o by omega];exact this
     ·rw[Θ c]at hi;rw[Θ (by rw[←hv.length];omega)];rcases i with _ | _ | i
      ·simp at hi;subst hi;exact⟨u,rfl,g⟩
      ·simp at hi;subst hi;exact⟨q,rfl,t⟩
      ·simp at hi
    obtain⟨F,r,G⟩:=get 0 m rfl;obtain⟨I,s,r1⟩:=get 1 p rfl;refine⟨h0,F,I,?_,G,r1⟩;congr 2;generalize kL #[u,q] (L.off+o+0) xs=A at C r s;apply Array.ext
    ·rw[C];rfl
    ·intro i N J;rcases i with _ | _ | i
     ·rw[lI (by omega)]at r;injection r
     ·rw[lI (by omega)]at s;injection s
     ·simp at J;omega
   ·cases h
 ·cases h
def XN(aE:cU P ty)(l:aM η T tmps)(m:bD η ty.g)(s:aV W η H n w){t:TypeId}{x y:Operand}{a:A}(c:dc ty (.store t x y)=some a)
 (hs:simple a T H n=some (v,H',n')):eB P W η H n w (do Instr.storeAt t (an tmps x) (an tmps y);pure .skip) v H' n':=by
 simp only[dc]at c;split at c
 ·rename_i i J M hi u z;injection c with c;subst c;simp only[simple]at hs;split at hs
  ·rename_i a b B hb;have q:=bQ l m u B;have C:=bQ l m z hb;unfold yZ at hs;split at hs
   ·rename_i k o;cases c:Nat.beq b.cells.length i.size with
    | false=>rw[c]at hs;cases hs
    | true=>
     rw[c]at hs;simp only[cond_true]at hs;cases d:fB H k o b.cells with
     | none=>rw[d]at hs;cases hs
     | some H1=>
      rw[d]at hs;simp only[oy]at hs;injection hs with hs;injection hs with D f;injection f with f E;subst D;subst f;subst E;have F:aD b.cells=true:=by
       unfold fB at d;split at d
       ·cases j:aD b.cells with
        | true=>rfl
        | false=>rw[j,Bool.and_false]at d;cases d
       ·cases j:aD b.cells with
        | true=>rfl
        | false=>rw[j]at d;cases d
       ·cases d
      obtain⟨r,N⟩:=C.cells F;obtain⟨L,G,I⟩:=DJ (P:=P) s r d;refine XL ?_;generalize an tmps x=p at q;cases q with
      | p _ _ L' e=>
       rw[G]at e;injection e with e;subst e;refine Δ (ai ?_);refine Δ (kM (aE.ok _ _ hi) ?_);have:(an tmps y).cells.size=i.size:=by have h1:=r.length;have h2:b.cells.length=i.size:=bX c;simp at h1;omega
       simp only[this,ne_eq,not_true_eq_false,if_false];refine Δ (ai ?_);exact I.mono λ_ w' h=>⟨η,h⟩
   ·cases hs
  ·cases hs
 ·cases c
def XO(aE:cU P ty)(m:aV W η H n w){t:TypeId}{a:A}(d:dc ty (.alloc t)=some a)(hs:simple a T H n=some (v,H',n')):
 eB P W η H n w (do pure (.value (←Instr.alloc t true (.tuple #[])))) v H' n':=by
 simp only[dc]at d;split at d
 ·rename_i i hi;cases hb:Nat.beq t ty.b with
  | true=>
   rw[hb]at d;simp only[cond_true]at d;split at d
   case h_2=>cases d
   rename_i x y r;injection d with d;subst d;simp only[simple,js]at hs;injection hs with hs;injection hs with g e;injection e with e k;subst g;subst e;subst k;refine fG ?_;refine Δ (pY (aE.ok _ _ hi) λz f _ s B=>?_);refine Δ (Δ (Δ (sd ?_)));obtain⟨η',h1,h2⟩:=Trans.new (room:=2) (o:=.b x y t) (ob:=.cells z.cells t) m (λη' hle=>by
    have h:=f η';rw[r]at h;generalize D:z.cells=A at h;obtain⟨A⟩:=A;cases h with
    | cons _ u _ l h1 h2=>
     cases h2 with
     | cons _ q _ l h2 C=>
      cases C;exact⟨rfl,u,q,rfl,h1,h2⟩)
   refine ai (ai (ai ⟨η',h1,?_⟩));have:=aq.p (η:=η') n 0 _ h2;exact this
  | false=>
  rw[hb]at d;simp only[cond_false]at d;injection d with d;subst d;simp only[simple,js]at hs;injection hs with hs;injection hs with g e;injection e with e k;subst g;subst e;subst k;refine fG ?_;refine Δ (pY (aE.ok _ _ hi) λz f _ s B=>?_);refine Δ (Δ (Δ (sd ?_)));have hl:i.zero.length=z.cells.size:=by rw[(f η).length];simp
  obtain⟨η',h1,h2⟩:=Trans.new (room:=z.cells.size) (o:=.c i.zero t 0) (ob:=.cells z.cells t) m (λη' hle=>⟨z.cells,(0,0),rfl,by simp,by simp;omega,λj v hj=>by have:=(f η').get hj;simpa using this,.inl U⟩)
  refine ai (ai (ai ⟨η',h1,?_⟩));have:=aq.p (η:=η') n 0 _ h2;exact this
 ·cases d
end ops
end
section
section ops
variable {P:Program}{ty:Ty}{W:Nat->Code->AC->Prop}{η:Env}{T:Tr V}{H H':Hp}{n n':K}{w:World}{tmps:Array Value}{v:V}
def DK(a:aV W η H n w)(e:TypeId){l:List V}{xs:List Value}(hl:aN η l xs)(more:List Value):
 ∃η',Trans W η H n w η' (H.put (some (.c l e 0)) n) n.succ { w with heap:=w.heap.push (.cells (xs++more).toArray e)}/\η' n=some ⟨w.heap.size,0,xs.length+more.length⟩:=
 Trans.new a λη' hle=>⟨(xs++more).toArray,(0,0),rfl,by simp,by show l.length<=xs.length+more.length;rw[hl.length];omega,λj v hj=>by obtain⟨y,h1,h2⟩:=hl.get hj;refine⟨y,?_,h2.mono hle⟩;have b:j<xs.length:=(mC.1 h1).1;simp[qW b,h1],.inl U⟩
def nM{o:O}{x:V}(h:js H n o x=some (v,H',n')):v=x/\H'=H.put (some o) n/\n'=n.succ:=by simp only[js]at h;injection h with h;injection h with h1 h2;injection h2 with h2 a;exact⟨h1.symm,h2.symm,a.symm⟩
def XP(d:aM η T tmps)(e:bD η ty.g)(f:aV W η H n w){t:TypeId}{x:Operand}{a:A}(b:dc ty (.box t x)=some a)(hs:simple a T H n=some (v,H',n')):
 eB P W η H n w (do pure (.value (←Instr.box t (an tmps x)))) v H' n':=by
 simp only[dc]at b;split at b
 ·rename_i l h;injection b with b;subst b;simp only[simple]at hs;split at hs
  ·rename_i u i;cases c:aD u.cells with
   | false=>rw[c]at hs;cases hs
   | true=>
    rw[c]at hs;obtain⟨rfl,rfl,rfl⟩:=nM hs;have j:=bQ d e h i;obtain⟨k,_⟩:=j.cells c;obtain⟨η',h1,h2⟩:=DK f t k [];refine fG (Δ (Δ (Δ (sd (ai (ai (ai ⟨η',?_,?_⟩)))))))
    ·simpa using h1
    ·exact aq.p (η:=η') n 0 _ h2
  ·cases hs
 ·cases b
def G2(h:aM η T tmps)(m:bD η ty.g){off:Nat->Option (Nat×Nat)}{place:Nat->Option (Nat×Nat)}(hp:∀i o s,off i=some (o,s)->place i=some (o,s))
 {ps:List (Nat×Operand)}{bY:List (Nat×Nat×au)}{zs r:List V}{cs:Array Value}(a:vT ty off ps=some bY)(hs:pd T zs bY=some r)(e:aN η zs cs.toList):
 ∃d,Instr.fill place cs (ps.map λp=>(p.1,an tmps p.2))=some d/\aN η r d.toList:=by
 induction ps generalizing bY zs cs with
 | nil=>
  simp only[vT]at a;injection a with a;subst a;simp only[pd]at hs;injection hs with hs;subst hs;exact⟨cs,rfl,e⟩
 | cons p ps ih=>
  obtain⟨i,x⟩:=p;simp only[vT]at a;split at a
  ·rename_i o s J L q t has;injection a with a;subst a;simp only[pd]at hs;split at hs
   ·rename_i u z;cases hb:(Nat.beq u.cells.length s&&aD u.cells) with
    | false=>rw[hb]at hs;cases hs
    | true=>
     rw[hb]at hs;simp only[cond_true]at hs;rw[aK]at hb;split at hs
     ·rename_i A B;have C:=bQ h m t z;obtain⟨b,_⟩:=C.cells hb.2;have hlen:(an tmps x).cells.size=s:=by
       have h1:=b.length;have h2:u.cells.length=s:=bX hb.1;simp at h1;omega
      obtain⟨g1,M,D⟩:=GQ B;have E:cs.size=zs.length:=by rw[e.length];simp
      have key:∀(l:List Value) (k:Nat) (c:Array Value),(l.zipIdx k).foldl (λcs (y,j)=>cs.setIfInBounds (o+j) y) c=kL c (o+k) l:=by
       intro l
       induction l with
       | nil=>intro k c;rfl
       | cons y l F=>intro k c;simp only[List.zipIdx_cons,List.foldl_cons,kL];rw[F];rfl
      have G:(an tmps x).cells.zipIdx.foldl (λcs (y,j)=>cs.setIfInBounds (o+j) y) cs=kL cs o (an tmps x).cells.toList:=by rw[←Array.foldl_toList,Array.toList_zipIdx];exact key _ 0 cs
      have I:aN η A (kL cs o (an tmps x).cells.toList).toList:=by
       refine aN.DF (by rw[g1];simp[DG,E]) λj v hj=>?_;rw[lJ,DH _ _ _ (by rw[←b.length];omega)];rw[D]at hj;by_cases f:o<=j/\j<o+u.cells.length
       ·rw[ao f]at hj;rw[ao (by rw[←b.length];omega)];exact b.get hj
       ·rw[Θ f]at hj;rw[Θ (by rw[←b.length];omega)];have:=e.get hj;rwa [lJ]at this
      obtain⟨d,h1,h2⟩:=ih has hs I;refine⟨d,?_,h2⟩;simp only[gB,Instr.fill,hp i o s q,hlen];rw[Θ (by
       have:u.cells.length=s:=bX hb.1;simp;omega)]
      rw[G];exact h1
     ·cases hs
   ·cases hs
  ·cases a
def Nt{l:Array Field}{fs:List (Nat×Nat)}(a:fs=l.toList.map (λf=>(f.type,f.offset))){i o s:Nat}(h:Dy ty fs i=some (o,s)):
 ∃f j,l[i]?=some f/\f.offset=o/\ty f.type=some j/\j.size=s:=by
 unfold Dy at h;rw[nK,a,List.getElem?_map]at h;cases e:l[i]? with
 | none=>rw[lJ,e]at h;cases h
 | some f=>
  rw[lJ,e]at h;simp only[ou]at h;split at h
  ·rename_i j hj;injection h with h;injection h with h1 h2;exact⟨f,j,rfl,h1,hj,h2⟩
  ·cases h
def XR{α β:Type}{f:α->Sem β}{g:α->β}(l:List α)(h:∀a∈l,∀w',aP P (f a) w' λb c=>b=g a/\c=w'):
 ∀w,aP P (l.mapM f) w λr w'=>r=l.map g/\w'=w:=by
 induction l with
 | nil=>intro w;exact ai ⟨rfl,rfl⟩
 | cons a l ih=>
  intro w;rw[List.mapM_cons];refine Δ ((h a (by simp) w).mono ?_);rintro b w' ⟨rfl,rfl⟩;refine Δ ((ih (λx d=>h x (by simp[d])) w').mono ?_);rintro r c ⟨rfl,rfl⟩;exact ai ⟨rfl,rfl⟩
def XS{α β:Type}{f:α->Sem β}{g:α->β}(l:Array α)(h:∀a∈l.toList,∀w',aP P (f a) w' λb c=>b=g a/\c=w'):
 ∀w,aP P (l.mapM f) w λr w'=>r=l.map g/\w'=w:=by
 intro w;obtain⟨r,w',h1,rfl,rfl⟩:=XR (P:=P) (g:=g) l.toList h w;refine⟨(l.toList.map g).toArray,w',?_,iY (by simp),rfl⟩;rw[Array.mapM_eq_mapM_toList];show(Sem.bind (l.toList.mapM f) _).run P w'=_;rw[Sem.run_bind',h1];rfl
def sj(z:List V)(k:Nat):(dL z k).length=k*z.length:=by
 induction k with
 | zero=>simp[dL]
 | succ k ih=>simp[dL,ih,rX,nF]
def DL{z:List V}{a:Array Value}(h:aN η z a.toList)(k m:Nat)(hm:m=k*a.size):aN η (dL z k) ((Array.range m).map (a[· % a.size]!)).toList:=by
 have c:z.length=a.size:=by rw[h.length];simp
 refine aN.DF (by rw[sj];simp[hm,c]) λi v hi=>?_;subst hm;have b:i<k*a.size:=by have:=(mC.1 hi).1;rw[sj,c]at this;exact this
 have f:0<a.size:=tV λe=>by rw[e]at b;simp at b
 have g:z[i % z.length]?=some v:=by
  clear h
  induction k generalizing i with
  | zero=>simp at b
  | succ k ih=>
   simp only[dL]at hi;by_cases h1:i<z.length
   ·rw[qW h1]at hi;rw[tZ h1];exact hi
   ·rw[tU (by omega)]at hi;have:=ih (i - z.length) hi (by rw[rX]at b;omega);rw[Nat.mod_eq_sub_mod (by omega)];exact this
 rw[c]at g;obtain⟨y,d,hv⟩:=h.get g;refine⟨y,?_,hv⟩;rw[lJ]at d ⊢;simp only[Array.getElem?_map,Array.getElem?_range];rw[ao b];simp only[ou];rw[getElem!_pos a _ (j4 _ f)];rw[lI (j4 _ f)]at d;exact d
def XT(aE:cU P ty)(D:aM η T tmps)(E:bD η ty.g)(F:aV W η H n w){t:TypeId}{ps:Array (Nat×Operand)}{a:A}(b:dc ty (.build t ps)=some a)
 (hs:simple a T H n=some (v,H',n')):eB P W η H n w (do pure (.value (←Instr.build t (ps.map λ(i,x)=>(i,an tmps x))))) v H' n':=by
 simp only[dc]at b;split at b
 case h_2=>cases b
 rename_i i hi;have q:=aE.ok _ _ hi;have G:(ps.map λ(i,x)=>(i,an tmps x)).toList=ps.toList.map λp=>(p.1,an tmps p.2):=by simp
 split at b
 ·rename_i fs plain s;split at b
  ·rename_i l hl;injection b with b;subst b;simp only[simple]at hs;split at hs
   ·rename_i r u;injection hs with hs;injection hs with y c;injection c with c B;subst y;subst c;subst B;have d:=q.desc;rw[s]at d;obtain⟨I,L,M,N,_⟩:=d;refine fG (Δ (pY q λz C _ _ _=>?_));refine Δ (a0 L ?_);refine Δ ((XS (g:=λf:Field=>(f.offset,((P.info? f.type).map (·.size)).getD 0)) I (λf hf w'=>?_) w).mono ?_)
    ·obtain⟨ti,J⟩:=N f hf;refine Δ (Δ (uu J (ai (ai ⟨?_,rfl⟩))));simp[J]
    ·rintro r' w' ⟨rfl,rfl⟩;obtain⟨O,h1,h2⟩:=G2 (place:=λk=>(I.map (λf:Field=>(f.offset,((P.info? f.type).map (·.size)).getD 0)))[k]?) D E (λk o sz h=>by
      obtain⟨f,j,g1,Q,R,S⟩:=Nt M h;obtain⟨ti,Y,U,X,_⟩:=(aE.ok _ _ R).info;simp[g1,U,Q,X,S]) hl u (C η)
     rw[G,h1];exact ai ⟨η,.refl F,.a _ _ h2⟩
   ·cases hs
  ·cases b
 ·rename_i m e s;split at b
  ·rename_i j hj;split at b
   ·rename_i l hl;injection b with b;subst b;simp only[simple]at hs;split at hs
    ·rename_i r u;injection hs with hs;injection hs with y c;injection c with c B;subst y;subst c;subst B;have d:=q.desc;rw[s]at d;refine fG (Δ (pY q λz C _ _ _=>?_));refine Δ (a0 d ?_);refine Δ (kM (aE.ok _ _ hj) ?_);obtain⟨O,h1,h2⟩:=G2 (place:=λi=>some (i*j.size,j.size)) D E (λ_ _ _ h=>h) hl u (C η);rw[G,h1];exact ai ⟨η,.refl F,.a _ _ h2⟩
    ·cases hs
   ·cases b
  ·cases b
 ·cases b
end ops
end
section
section ops
variable {P:Program}{ty:Ty}{W:Nat->Code->AC->Prop}{η:Env}{T:Tr V}{H H':Hp}{n n':K}{w:World}{tmps:Array Value}{v:V}
def Nv(b:aM η T tmps)(c:bD η ty.g)(d:aV W η H n w){x:Operand}{a:au}(e:br ty x=some a)(hs:simple (.mv a) T H n=some (v,H',n')):
 eB P W η H n w (pure (.value (an tmps x))) v H' n':=by
 obtain⟨h1,rfl,rfl⟩:=jO hs;exact LG d (bQ b c e h1)
def XU(d:aM η T tmps)(e:bD η ty.g)(h:aV W η H n w){x y z:Operand}{a:A}(c:dc ty (.pick x y z)=some a)(hs:simple a T H n=some (v,H',n')):
 eB P W η H n w (do pure (.value (if←asBool (an tmps x) then an tmps y else an tmps z))) v H' n':=by
 simp only[dc]at c;split at c
 ·rename_i l m o i j k;injection c with c;subst c;simp only[simple]at hs;split at hs
  ·rename_i b hb;obtain⟨h1,rfl,rfl⟩:=jO hs;have f:=bQ d e i hb;generalize an tmps x=q at f;cases f;refine Δ (ai ?_);refine ai ⟨η,.refl h,.inl ⟨_,rfl,?_⟩⟩;cases b with
   | true=>exact bQ d e j h1
   | false=>exact bQ d e k h1
  ·cases hs
 ·cases c
def XV(aE:cU P ty)(m:aM η T tmps)(o:bD η ty.g)(s:aV W η H n w){t:TypeId}{len:Nat}{ps:Array (Nat×Operand)}{a:A}
 (b:dc ty (.buildSlice t len ps)=some a)(hs:simple a T H n=some (v,H',n')):
 eB P W η H n w (do pure (.value (←Instr.buildSlice t len (ps.map λ(i,x)=>(i,an tmps x))))) v H' n':=by
 simp only[dc]at b;split at b
 case h_2=>cases b
 rename_i i hi;have u:(ps.map λ(i,x)=>(i,an tmps x)).toList=ps.toList.map λp=>(p.1,an tmps p.2):=by simp
 split at b
 ·rename_i e B;split at b
  ·rename_i j hj;cases hb:Nat.ble (len*j.size) 16777216 with
   | false=>rw[hb]at b;cases b
   | true=>
    rw[hb]at b;simp only[cond_true]at b;split at b
    ·rename_i l hl;injection b with b;subst b;simp only[simple]at hs;split at hs
     ·rename_i r C;obtain⟨rfl,rfl,rfl⟩:=nM hs;have f:=(aE.ok _ _ hi).desc;rw[B]at f;refine fG (Δ (a0 f ?_));refine Δ (kM (aE.ok _ _ hj) ?_);have hle:¬ len*j.size>2 ^ 24:=by have:=kH hb;omega
      simp only[hle,if_false];have k:∀z:Array Value,(∀η,aN η (dL j.zero len) ((Array.range (len*j.size)).map (z[· % z.size]!)).toList)->aP P (do
       let some cells:=Instr.fill (λi=>some (i*j.size,j.size)) ((Array.range (len*j.size)).map (z[· % z.size]!)) (ps.map λ(i,x)=>(i,an tmps x)).toList
        | stuck "buildSlice: a part of the wrong size"
       pure (.slice (some (←newRow e cells)) len len)) w λy w'=>∃η',Trans W η H n w η' (H.put (some (.c r e 0)) n) n.succ w'/\aq η' (.sl n 0 len len) y:=by
       intro z d;obtain⟨G,h1,h2⟩:=G2 (place:=λi=>some (i*j.size,j.size)) m o (λ_ _ _ h=>h) hl C (d η);rw[u,h1];obtain⟨η',g1,D⟩:=DK s e h2 [];refine Δ (Δ (sd (ai (ai ⟨η',?_,?_⟩))))
       ·simpa using g1
       ·exact aq.sl (η:=η') n 0 len len _ D
      by_cases h0:len*j.size=0
      ·rw[ao h0];exact Δ (ai (k #[] (λη=>by
        obtain⟨ti,z,_,_,_,_,_,_,_,q,_⟩:=(aE.ok _ _ hj).info;have:dL j.zero len=[]:=by rw[←nD,sj,q,h0]
        rw[this,h0];have E:Array.range 0=#[]:=rfl;rw[E,Array.map_empty];exact .nil)))
      ·rw[Θ h0];refine Δ (pY (aE.ok _ _ hj) λz d _ _ F=>Δ (ai ?_));exact k z.cells (λη=>DL (d η) len _ (by rw[F]))
     ·cases hs
    ·cases b
  ·cases b
 ·cases b
def XW(k:aM η T tmps)(m:bD η ty.g)(r:aV W η H n w){x:Operand}{a:A}(h:dc ty (.nilCheck x)=some a)(hs:simple a T H n=some (v,H',n'))(o:Oper)(u:o.op=.nilCheck x):
 eB P W η H n w (execOp (an tmps) o) v H' n':=by
 simp only[dc]at h;split at h
 ·rename_i z s;injection h with h;subst h;unfold execOp;simp only[u];simp only[simple]at hs;split at hs
  ·rename_i b o' hb;injection hs with hs;injection hs with i d;injection d with d j;subst i;subst d;subst j;have e:=bQ k m s hb;generalize an tmps x=q at e;cases e with
   | p _ _ L t=>exact LG r (.p _ _ L t)
  ·rename_i g a c hb;injection hs with hs;injection hs with i d;injection d with d j;subst i;subst d;subst j;have e:=bQ k m s hb;generalize an tmps x=q at e;cases e with
   | f _ _ _ _ _ h1 h2=>exact LG r (.f _ _ _ _ _ h1 h2)
  ·rename_i l hb;injection hs with hs;injection hs with i d;injection d with d j;subst i;subst d;subst j;have e:=bQ k m s hb;generalize an tmps x=q at e;cases e with
   | y _ L t=>exact LG r (.y _ L t)
  ·cases hs
 ·cases h
def Nw{t:TypeId}{d:TD}(h:GV P t d)(h1:d≠.other)(h2:d≠.iface):∃u,P.underlying t=some u/\∀ms,u≠.interface ms:=by
 cases d with
 | other=>exact absurd rfl h1
 | iface=>exact absurd rfl h2
 | iI fs plain=>obtain⟨l,a,_⟩:=h;exact⟨_,a,λ_ e=>by cases e⟩
 | func=>obtain⟨_,_,_,a⟩:=h;exact⟨_,a,λ_ e=>by cases e⟩
 | bool=>exact⟨_,h,λ_ e=>by cases e⟩
 | int _=>exact⟨_,h,λ_ e=>by cases e⟩
 | str=>exact⟨_,h,λ_ e=>by cases e⟩
 | ptr _=>exact⟨_,h,λ_ e=>by cases e⟩
 | xZ=>exact⟨_,h,λ_ e=>by cases e⟩
 | slice _=>exact⟨_,h,λ_ e=>by cases e⟩
 | arr _ _=>exact⟨_,h,λ_ e=>by cases e⟩
 | map _ _=>exact⟨_,h,λ_ e=>by cases e⟩
def XX(aE:cU P ty)(d:aM η T tmps)(e:bD η ty.g)(f:aV W η H n w){t:TypeId}{x:Operand}{a:A}(b:dc ty (.makeInterface t x)=some a)
 (hs:simple a T H n=some (v,H',n')):eB P W η H n w (do pure (.value (←Instr.makeInterface t (an tmps x)))) v H' n':=by
 simp only[dc]at b;split at b
 ·rename_i i h hi j;have k:=(aE.ok _ _ hi).desc;have l:a=.mif t h/\i.desc≠.other/\i.desc≠.iface:=by
   split at b
   ·cases b
   ·cases b
   ·rename_i h1 h2;injection b with b;exact⟨b.symm,h2,h1⟩
  obtain⟨rfl,h1,h2⟩:=l;obtain⟨u,m,o⟩:=Nw k h1 h2;simp only[simple]at hs;split at hs
  ·rename_i y p;injection hs with hs;injection hs with q c;injection c with c r;subst q;subst c;subst r;refine fG (Δ (a0 m ?_));have s:=bQ d e j p;cases u<;>first | exact absurd rfl (o _) | exact ai ⟨η,.refl f,.jM _ _ _ s⟩
  ·cases hs
 ·cases b
def XY(h:aM η T tmps)(i:bD η ty.g)(j:aV W η H n w){fn:Fn}{f c:Array Operand}{a:A}(b:dc ty (.makeFunc fn f c)=some a)
 (hs:simple a T H n=some (v,H',n')):eB P W η H n w (do pure (.value (←Instr.makeFunc fn (f.map (an tmps)) (c.map (an tmps))))) v H' n':=by
 simp only[dc]at b;split at b
 ·rename_i g;split at b
  ·rename_i f' c' hf k;injection b with b;subst b;simp only[simple]at hs;split at hs
   ·rename_i m o h1 h2;injection hs with hs;injection hs with e d;injection d with d l;subst e;subst d;subst l;refine fG (ai ⟨η,.refl j,?_⟩);have r1:=yc h i hf h1;have r2:=yc h i k h2;have e:f.map (an tmps)=⟨f.toList.map (an tmps)⟩:=by apply iY;simp
    have d:c.map (an tmps)=⟨c.toList.map (an tmps)⟩:=by apply iY;simp
    rw[e,d];exact .f _ _ _ _ _ r1 r2
   ·cases hs
  ·cases b
 ·cases b
def XZ(aE:cU P ty)(d:aV W η H n w){t:TypeId}{r:Option Operand}{a:A}(b:dc ty (.makeMap t r)=some a)
 (hs:simple a T H n=some (v,H',n')):eB P W η H n w (do pure (.value (←Instr.makeMap t (r.map (an tmps))))) v H' n':=by
 simp only[dc]at b;split at b
 case h_2=>cases b
 rename_i i hi;have c:=(aE.ok _ _ hi).desc;have key:a=.mmap->aP P (do pure (.map (some (←newObj (.map #[] 0)))):Sem Value) w λy w'=>∃η',Trans W η H n w η' H' n' w'/\aq η' v y:=by rintro rfl;obtain⟨rfl,rfl,rfl⟩:=nM hs;obtain⟨η',h1,h2⟩:=Trans.new (room:=0) (o:=.mp [] 0) (ob:=.map #[] 0) d (λη' hle=>⟨#[],rfl,trivial⟩);exact Δ (sd (ai ⟨η',h1,aq.m (η:=η') n _ h2⟩))
 split at b
 ·injection b with b;exact fG (key b.symm)
 ·rename_i k e g h f;injection b with b;rw[f]at c;refine fG ?_;unfold Instr.makeMap;exact Δ (a0 c (Δ (Δ (ai (ai (key b.symm))))))
 ·cases b
end ops
end
section
def wrap_i64{n:Int}(h0:0<=n)(h1:n<=9223372036854775807):IntKind.i64.wrap n=n:=by unfold IntKind.wrap;have hm:n % (2 ^ IntKind.i64.bits:Int)=n:=Int.emod_eq_of_lt h0 (by have:(2:Int) ^ IntKind.i64.bits=18446744073709551616:=rfl;omega);simp only[hm];rw[Θ];intro h;rw[aK,aW]at h;have:(2:Int) ^ (IntKind.i64.bits - 1)=9223372036854775808:=rfl;omega
section ops
variable {P:Program}{ty:Ty}{W:Nat->Code->AC->Prop}{η:Env}{T:Tr V}{H H':Hp}{n n':K}{w:World}{tmps:Array Value}{v:V}
def dB{a:V}{b:Hp}{c:K}(h:(some (a,b,c):fo)=some (v,H',n')):v=a/\H'=b/\n'=c:=by injection h with h;injection h with h1 h2;injection h2 with h2 d;exact⟨h1.symm,h2.symm,d.symm⟩
def X0(aE:cU P ty)(k:aM η T tmps)(l:bD η ty.g)(m:aV W η H n w){t:TypeId}{x:Operand}{f:Nat}{a:A}(c:dc ty (.fieldAddr t x f)=some a)
 (hs:simple a T H n=some (v,H',n')):eB P W η H n w (do pure (.value (←Instr.fieldAt t (an tmps x) f))) v H' n':=by
 simp only[dc]at c;split at c
 case h_2=>cases c
 rename_i i G hi r;split at c
 case h_2=>cases c
 rename_i fs plain s;have d:=(aE.ok _ _ hi).desc;rw[s]at d;obtain⟨I,u,y,_⟩:=d;split at c
 case h_2=>cases c
 rename_i o sz hf;cases hb:Nat.beq sz 0 with
 | true=>rw[hb]at c;cases c
 | false=>
  rw[hb]at c;simp only[cond_false]at c;injection c with c;subst c;obtain⟨fd,j,g1,z,B,C⟩:=Nt y hf;simp only[simple]at hs;split at hs
  ·rename_i b o' D;obtain⟨rfl,rfl,rfl⟩:=dB hs;have h:=bQ k l r D;generalize an tmps x=q at h;cases h with
   | p _ _ L E=>
    refine fG (Δ (a0 u ?_));simp only[g1];refine Δ (ai ?_);refine Δ (Δ (kM (aE.ok _ _ B) ?_));have F:¬ j.size=0:=by intro e;rw[C]at e;rw[e]at hb;cases hb
    simp only[F,if_false];refine ai (ai ⟨η,.refl m,?_⟩);rw[pX,z];have:=aq.p (η:=η) b (o'+o) L E;rw[show L.off+o'+o=L.off+(o'+o) by omega];exact this
  ·cases hs
def G4{t:TypeId}{i:TI}(hi:sg P t i){l:List V}{cs:Array Value}(hl:aN η l cs.toList){o:Nat}{v:V}
 (h:(bif i.desc.agg then (match ch l o i.size with | some l'=>some (V.a l') | none=>none) else nth l o)=some v):
 aP P (part t cs o) w λy w'=>aq η v y/\w'=w:=by
 refine Δ (Nq hi ?_);cases b:i.desc.agg with
 | true=>
  rw[b]at h;simp only[cond_true]at h;split at h
  ·rename_i r d;injection h with h;subst h;obtain⟨rfl,e⟩:=mJ d;simp only[if_true];refine Δ (kM hi (ai ⟨?_,rfl⟩));have:cs.extract o (o+i.size)=⟨(cs.toList.drop o).take i.size⟩:=by
    apply iY;simp
   rw[this];exact .a _ _ (hl.sub o i.size)
  ·cases h
 | false=>
  rw[b]at h;simp only[cond_false]at h;rw[nK]at h;obtain⟨y,c,hv⟩:=hl.get h;rw[lJ]at c;simp only[vI,if_false,c];exact ai ⟨hv,rfl⟩
def X1(aE:cU P ty)(k:aM η T tmps)(m:bD η ty.g)(p:aV W η H n w){t:TypeId}{x:Operand}{f:Nat}{a:A}(b:dc ty (.field t x f)=some a)
 (hs:simple a T H n=some (v,H',n')):eB P W η H n w (do pure (.value (←Instr.field t (an tmps x) f))) v H' n':=by
 simp only[dc]at b;split at b
 case h_2=>cases b
 rename_i i F hi s;split at b
 case h_2=>cases b
 rename_i fs plain u;have d:=(aE.ok _ _ hi).desc;rw[u]at d;obtain⟨z,B,C,_⟩:=d;split at b
 case h_2=>cases b
 rename_i G o hf;split at b
 case h_2=>cases b
 rename_i j hj;injection b with b;subst b;rw[nK,C,List.getElem?_map,lJ]at hf;cases e:z[f]? with
 | none=>rw[e]at hf;cases hf
 | some fd=>
  rw[e]at hf;simp only[ou]at hf;injection hf with hf;injection hf with D E;simp only[simple]at hs;split at hs
  ·rename_i l hl;have c:=bQ k m s hl;generalize an tmps x=q at c;cases c with
   | a _ l' c=>
    refine fG (Δ (a0 B ?_));simp only[e];refine Δ (ai ?_);rw[D,E];have hp:(bif j.desc.agg then (match ch l o j.size with | some l'=>some (V.a l') | none=>none) else nth l o)=some v/\H'=H/\n'=n:=by
     cases h:j.desc.agg with
     | true=>
      rw[h]at hs;simp only[cond_true]at hs ⊢;split at hs
      ·rename_i r c;obtain⟨rfl,rfl,rfl⟩:=dB hs;simp only[c,and_self]
      ·cases hs
     | false=>
      rw[h]at hs;simp only[cond_false]at hs ⊢;exact jO hs
    obtain⟨hp,rfl,rfl⟩:=hp;exact(G4 (aE.ok _ _ hj) (cs:=⟨l'⟩) c hp).mono λy w' ⟨h1,h2⟩=>⟨η,by subst h2;exact .refl p,h1⟩
  ·cases hs
def X2(aE:cU P ty)(s:aM η T tmps)(u:bD η ty.g)(D:aV W η H n w){t:TypeId}{x y:Operand}{a:A}(f:dc ty (.indexAddr t x y)=some a)
 (hs:simple a T H n=some (v,H',n')):eB P W η H n w (do pure (.value (←Instr.indexAt t (an tmps x) (an tmps y)))) v H' n':=by
 simp only[dc]at f;split at f
 case h_2=>cases f
 rename_i i I J hi E F;have k:=(aE.ok _ _ hi).desc;split at f
 ·rename_i m e z;rw[z]at k;split at f
  case h_2=>cases f
  rename_i j hj;injection f with f;subst f;simp only[simple]at hs;split at hs
  case h_2=>cases hs
  rename_i x1 k1 d h1 h2;have q:=bQ s u E h1;have r:=bQ s u F h2;generalize an tmps x=B at q;generalize an tmps y=G at r;cases r with
  | i _ _=>
   split at hs
   case h_2 heq=>cases heq
   case h_3 heq=>cases heq
   case h_4=>cases hs
   rename_i M b o heq;injection heq with heq;subst heq;cases hb:Nat.blt d m with
   | false=>rw[hb]at hs;cases hs
   | true=>
    rw[hb]at hs;obtain⟨rfl,rfl,rfl⟩:=dB hs;have C:d<m:=by have:d+1<=m:=kH hb;omega
    cases q with
    | p _ _ L h=>
     refine fG (Δ (ai (Δ (a0 k ?_))));refine Δ (ai ?_);refine Δ (ai ?_);refine Δ (a0 k ?_);have:(0:Int)<=Int.ofNat d/\Int.ofNat d<(m:Int):=⟨pL _,Int.ofNat_lt.2 C⟩;simp only[this,and_self,if_true];refine Δ (kM (aE.ok _ _ hj) (ai ⟨η,.refl D,?_⟩));rw[pX];have:=aq.p (η:=η) b (o+d*j.size) L h;show aq η _ (.pointer (some ⟨L.blk,L.off+o+d*j.size,none⟩));rw[show L.off+o+d*j.size=L.off+(o+d*j.size) by omega];exact this
 ·rename_i e z;rw[z]at k;split at f
  case h_2=>cases f
  rename_i j hj;injection f with f;subst f;simp only[simple]at hs;split at hs
  case h_2=>cases hs
  rename_i x1 k1 d h1 h2;have q:=bQ s u E h1;have r:=bQ s u F h2;generalize an tmps x=B at q;generalize an tmps y=G at r;cases r with
  | i _ _=>
   have main:∀(b:K) (o l c:Nat) (L:Loc),η b=some L->B=.slice (some ⟨L.blk,L.off+o,none⟩) l c->Nat.blt d l=true->some (V.p b (Nat.add o (Nat.mul d j.size)),H,n)=some (v,H',n')->eB P W η H n w (do pure (.value (←Instr.indexAt t B (.int k1 (Int.ofNat d))))) v H' n':=by
    rintro b o l c L h rfl hb hs;obtain⟨rfl,rfl,rfl⟩:=dB hs;have C:d<l:=by have:d+1<=l:=kH hb;omega
    refine fG (Δ (ai (Δ (a0 k ?_))));refine Δ (ai ?_);refine Δ (a0 k ?_);have:(0:Int)<=Int.ofNat d/\Int.ofNat d<(l:Int):=⟨pL _,Int.ofNat_lt.2 C⟩;simp only[this,and_self,if_true];refine Δ (kM (aE.ok _ _ hj) (ai ⟨η,.refl D,?_⟩));rw[pX];have:=aq.p (η:=η) b (o+d*j.size) L h;show aq η _ (.pointer (some ⟨L.blk,L.off+o+d*j.size,none⟩));rw[show L.off+o+d*j.size=L.off+(o+d*j.size) by omega];exact this
   split at hs
   case h_1 heq=>cases heq
   case h_4=>cases hs
   ·rename_i b o l c heq;cases q with
    | sl _ _ _ _ L h=>
     cases hb:Nat.blt d l with
     | false=>rw[hb]at hs;cases hs
     | true=>rw[hb]at hs;exact main b o l c L h rfl hb hs
   ·rename_i b o l c heq;cases hb:Nat.blt d l with
    | false=>rw[hb]at hs;cases hs
    | true=>
     rw[hb]at hs;cases q with
     | su _ _ _ _ L c' h h1 h2=>exact main b o l c' L h rfl hb hs
     | se=>cases hb
 ·cases f
end ops
end
section
section ops
variable {P:Program}{ty:Ty}{W:Nat->Code->AC->Prop}{η:Env}{T:Tr V}{H H':Hp}{n n':K}{w:World}{tmps:Array Value}{v:V}
def X3{l m i:Nat}(h:i<l):(strOf l m)[i]?=some (UInt8.ofNat (m / 256 ^ i % 256)):=by
 have:=Nk l m i h;show(strOf l m)[i]?=_;have hs:i<(strOf l m).size:=by rw[ri];exact h
 rw[getElem?_pos (strOf l m) i hs];have e:(strOf l m)[i]=(bz l m).toArray[i]'(by simpa[pg]using h):=rfl;rw[e];rw[df (by rw[pg];exact h)]at this;simpa using this
def X4(aE:cU P ty)(h:aM η T tmps)(k:bD η ty.g)(E:aV W η H n w){t:TypeId}{x o:Operand}{a:A}(c:dc ty (.index t x o)=some a)
 (hs:simple a T H n=some (v,H',n')):eB P W η H n w (do pure (.value (←Instr.index t (an tmps x) (an tmps o)))) v H' n':=by
 simp only[dc]at c;split at c
 case h_2=>cases c
 rename_i i N O hi F G;have p:=(aE.ok _ _ hi).desc;split at c
 ·rename_i q;rw[q]at p;injection c with c;subst c;simp only[simple]at hs;split at hs
  case h_2=>cases hs
  rename_i x1 k1 b h1 h2;have d:=bQ h k F h1;have f:=bQ h k G h2;generalize an tmps x=J at d;generalize an tmps o=L at f;cases f with
  | i _ _=>
   split at hs
   case h_2 heq=>cases heq
   case h_3=>cases hs
   rename_i l m _;cases d with
   | s _ _ hm=>
    cases hb:Nat.blt b l with
    | false=>rw[hb]at hs;cases hs
    | true=>
     rw[hb]at hs;obtain⟨rfl,rfl,rfl⟩:=dB hs;have u:b<l:=by have:b+1<=l:=kH hb;omega
     refine fG (Δ (ai ?_));refine Δ (a0 p ?_);have h0:(0:Int)<=Int.ofNat b:=pL _;simp only[h0,if_true];rw[show(Int.ofNat b).toNat=b from rfl,X3 u];refine ai ⟨η,.refl E,?_⟩;have:((UInt8.ofNat (m / 256 ^ b % 256)).toNat:Int)=Int.ofNat (FK m b):=by have B:FK m b=m / 256 ^ b % 256:=rfl;rw[B];simp
     rw[this];exact .i _ _
 ·rename_i m e q;rw[q]at p;split at c
  case h_2=>cases c
  rename_i j hj;injection c with c;subst c;simp only[simple]at hs;split at hs
  case h_2=>cases hs
  rename_i x1 k1 b h1 h2;have d:=bQ h k F h1;have f:=bQ h k G h2;generalize an tmps x=J at d;generalize an tmps o=L at f;cases f with
  | i _ _=>
   split at hs
   case h_1 heq=>cases heq
   case h_3=>cases hs
   rename_i Q z agg l heq;injection heq with heq;injection heq with B C;injection C with C M;subst B;subst C;subst M;cases d with
   | a _ l' D=>
    cases hb:Nat.blt b m with
    | false=>rw[hb]at hs;cases hs
    | true=>
     rw[hb]at hs;simp only[cond_true]at hs;have u:b<m:=by have:b+1<=m:=kH hb;omega
     have hp:(bif j.desc.agg then (match ch l (Nat.mul b j.size) j.size with | some l'=>some (V.a l') | none=>none) else nth l (Nat.mul b j.size))=some v/\H'=H/\n'=n:=by
      cases I:j.desc.agg with
      | true=>
       rw[I]at hs;simp only[cond_true]at hs ⊢;split at hs
       ·rename_i r D;obtain⟨rfl,rfl,rfl⟩:=dB hs;simp only[D,and_self]
       ·cases hs
      | false=>
       rw[I]at hs;simp only[cond_false]at hs ⊢;exact jO hs
     obtain⟨hp,rfl,rfl⟩:=hp;refine fG (Δ (ai ?_));refine Δ (a0 p ?_);have:(0:Int)<=Int.ofNat b/\Int.ofNat b<(m:Int):=⟨pL _,Int.ofNat_lt.2 u⟩;simp only[this,and_self,if_true];refine Δ (kM (aE.ok _ _ hj) ?_);exact(G4 (aE.ok _ _ hj) (cs:=⟨l'⟩) D hp).mono λy w' ⟨h1,h2⟩=>⟨η,by subst h2;exact .refl E,h1⟩
 ·cases c
def X5(d:aM η T tmps)(e:bD η ty.g)(f:aV W η H n w){x:Operand}{i:Nat}{a:A}(b:dc ty (.extract x i)=some a)
 (hs:simple a T H n=some (v,H',n')):eB P W η H n w (do pure (.value (←Instr.extract (an tmps x) i))) v H' n':=by
 simp only[dc]at b;split at b
 case h_2=>cases b
 rename_i k h;injection b with b;subst b;simp only[simple]at hs;split at hs
 case h_2=>cases hs
 rename_i l hl;obtain⟨h1,rfl,rfl⟩:=jO hs;have c:=bQ d e h hl;generalize an tmps x=q at c;cases c with
 | u _ l' c=>
  rw[nK]at h1;obtain⟨y,j,hv⟩:=c.get h1;refine fG ?_;have:(⟨l'⟩:Array Value)[i]?=some y:=by simpa using j
  simp only[Instr.extract,this];exact ai ⟨η,.refl f,hv⟩
def G6{ok:Bool}{z:V}{b:Bool}{y:Value}(h:aq η z y):aq η (vS ok z b) (if ok then .tuple #[y,.bool b] else y):=by
 cases ok with
 | true=>exact .u _ _ (.cons _ _ _ _ h (.cons _ _ _ _ (.b b) .nil))
 | false=>exact h
def X6(aE:cU P ty)(k:aM η T tmps)(l:bD η ty.g)(m:aV W η H n w){x:Operand}{o t:TypeId}{ok:Bool}{a:A}(c:dc ty (.typeAssert x o t ok)=some a)
 (hs:simple a T H n=some (v,H',n')):eB P W η H n w (do pure (.value (←Instr.typeAssert (an tmps x) o t ok))) v H' n':=by
 simp only[dc]at c;split at c
 case h_2=>cases c
 rename_i i s hi p;have B:=(aE.ok _ _ hi).desc;have C:a=.tas t i.zeroV ok s/\i.desc≠.other/\i.desc≠.iface:=by
  split at c
  ·cases c
  ·cases c
  ·rename_i h1 h2;injection c with c;exact⟨c.symm,h2,h1⟩
 obtain⟨rfl,g1,D⟩:=C;obtain⟨u,f,h⟩:=Nw B g1 D;have r:ok=true->aP P (do pure (.tuple #[←zeroValue t,.bool false]):Sem Value) w λy w'=>∃η',Trans W η H n w η' H n w'/\aq η' (.u [i.zeroV,.b false]) y:=λ_=>
  Δ (pY (aE.ok _ _ hi) λz _ E _ _=>ai ⟨η,.refl m,.u _ _ (.cons _ _ _ _ (E η) (.cons _ _ _ _ (.b _) .nil))⟩)
 simp only[simple]at hs;split at hs
 ·rename_i j;cases ok with
  | false=>cases hs
  | true=>
   obtain⟨rfl,rfl,rfl⟩:=dB hs;have d:=bQ k l p j;generalize an tmps x=q at d;cases d;refine fG (Δ (a0 f ?_));cases u<;>first | exact absurd rfl (h _) | exact r rfl
 ·rename_i t' v' j;have d:=bQ k l p j;generalize an tmps x=q at d;cases d with
  | jM _ _ y d=>
   cases hb:Nat.beq t t' with
   | true=>
    rw[hb]at hs;obtain⟨rfl,rfl,rfl⟩:=dB hs;have e:t'=t:=(bX hb).symm;subst e;refine fG (Δ (a0 f ?_));cases u<;>first
     | exact absurd rfl (h _)
     | (simp only[if_true];exact ai ⟨η,.refl m,G6 d⟩)
   | false=>
    rw[hb]at hs;simp only[cond_false]at hs;cases ok with
    | false=>cases hs
    | true=>
     obtain⟨rfl,rfl,rfl⟩:=dB hs;have e:¬ t'=t:=λe=>by subst e;simp[Nat.beq_refl]at hb
     refine fG (Δ (a0 f ?_));cases u<;>first
      | exact absurd rfl (h _)
      | (simp only[e,if_false];exact r rfl)
 ·cases hs
end ops
end
section
def X7{k:IntKind}{n:Int}(h:fits k n=true):k.wrap n=n:=by
 have key:∀(b:Nat) (s:Bool) (B C:Int),(2:Int) ^ b=B->(2:Int) ^ (b - 1)=C->B=2*C->0<C->(s=true -> -C<=n/\n<C)->(s=false->0<=n/\n<B)->(if s&&decide (n % (2 ^ b:Int)>=(2 ^ (b - 1):Int)) then n % (2 ^ b:Int) - (2 ^ b:Int) else n % (2 ^ b:Int))=n:=by
  intro b s B C hB d g i h1 h2;rw[hB,d];cases s with
  | false=>
   obtain⟨a,c⟩:=h2 rfl;simp only[xJ,vI,if_false];exact Int.emod_eq_of_lt a c
  | true=>
   obtain⟨a,c⟩:=h1 rfl;by_cases f:0<=n
   ·have:n % B=n:=Int.emod_eq_of_lt f (by omega);rw[this,Θ];simp;omega
   ·have:n % B=n+B:=by
     have:=Int.add_emod_right n B;rw[←this];exact Int.emod_eq_of_lt (by omega) (by omega)
    rw[this,ao]
    ·omega
    ·simp;omega
 unfold IntKind.wrap;cases k<;>cases n<;>first | (cases h;done) | skip
 all_goals
  rename_i m;have hm:=kH h;have j:Int.ofNat m=(m:Int):=rfl
 ·exact key 32 true 4294967296 2147483648 rfl rfl rfl (by omega) (λ_=>⟨by omega,by omega⟩) (λe=>by cases e)
 ·exact key 32 true 4294967296 2147483648 rfl rfl rfl (by omega) (λ_=>⟨by omega,by omega⟩) (λe=>by cases e)
 ·exact key 64 true 18446744073709551616 9223372036854775808 rfl rfl rfl (by omega) (λ_=>⟨by omega,by omega⟩) (λe=>by cases e)
 ·exact key 64 true 18446744073709551616 9223372036854775808 rfl rfl rfl (by omega) (λ_=>⟨by omega,by omega⟩) (λe=>by cases e)
 ·exact key 8 false 256 128 rfl rfl rfl (by omega) (λe=>by cases e) (λ_=>⟨by omega,by omega⟩)
 ·exact key 16 false 65536 32768 rfl rfl rfl (by omega) (λe=>by cases e) (λ_=>⟨by omega,by omega⟩)
 ·exact key 32 false 4294967296 2147483648 rfl rfl rfl (by omega) (λe=>by cases e) (λ_=>⟨by omega,by omega⟩)
 ·exact key 64 false 18446744073709551616 9223372036854775808 rfl rfl rfl (by omega) (λe=>by cases e) (λ_=>⟨by omega,by omega⟩)
def pZ(k:IntKind)(n:Int):wr k n=k.wrap n:=by
 unfold wr;cases h:fits k n with
 | true=>exact(X7 h).symm
 | false=>rfl
def ye(a b:Int):pG a b=(a==b):=by
 cases a<;>cases b<;>simp[pG]
 ·rename_i m n;rw[pM];simp[Nat.beq_eq];omega
 ·rename_i m n;rw[pM];simp[Nat.beq_eq]
def Ap(a b:Int):tG a b=decide (a<b):=by
 cases a<;>cases b<;>simp only[tG]
 ·rename_i m n;have c:Int.ofNat m=(m:Int):=rfl;have d:Int.ofNat n=(n:Int):=rfl;rw[pM];simp only[aW,Nat.blt,Nat.ble_eq];constructor<;>intro h<;>omega
 ·rename_i m n;simp;omega
 ·rename_i m n;simp;omega
 ·rename_i m n;rw[pM];simp only[aW,Nat.blt,Nat.ble_eq];constructor<;>intro h<;>omega
def Ny(a b:Int):zZ a b=decide (a<=b):=by unfold zZ;rw[Ap];rw[pM];simp
def DM{a b:IntKind}(h:Nat.beq (kn a) (kn b)=true):a=b:=by cases a<;>cases b<;>first | rfl | (exact absurd h (by decide))
section ops
variable {P:Program}{ty:Ty}{W:Nat->Code->AC->Prop}{η:Env}{T:Tr V}{H H':Hp}{n n':K}{w:World}{tmps:Array Value}{v:V}
def rm(P:Program)(w:World)(η:Env)(s:Sem Value)(v:V):Prop:=aP P s w λy w'=>aq η v y/\w'=w
def rm.ok{s:Sem Value}{v:V}(c:aV W η H n w)(h:rm P w η s v):aP P s w λy w'=>∃η',Trans W η H n w η' H n w'/\aq η' v y:=
 h.mono λ_ _ ⟨a,b⟩=>⟨η,by subst b;exact .refl c,a⟩
def hX{x:Value}{v:V}(h:aq η v x):rm P w η (pure x) v:=ai ⟨h,rfl⟩
def Aq(op:BinOp)(k:IntKind)(x y:Int):Sem Value:=
 match op with
 | .add | .sub | .mul=>Op.intArith op k x y
 | .quo | .rem=>Op.intDiv op k x y
 | .and | .or | .xor | .andNot=>Op.intBits op k x y
 | _=>Op.intCmp op x y
def NA{op:BinOp}{k:IntKind}{x y:Int}{v:V}(h:mG op k x y=some v)(c:op≠.shl/\op≠.shr):
 rm P w η (Aq op k x y) v:=by
 cases op<;>simp only[mG]at h<;>first | (injection h with h;subst h) | skip
 case add=>rw[pZ];exact hX (.i _ _)
 case sub=>rw[pZ];exact hX (.i _ _)
 case mul=>rw[pZ];exact hX (.i _ _)
 case quo=>
  cases a:pG y 0 with
  | true=>rw[a]at h;cases h
  | false=>
   rw[a]at h;injection h with h;subst h;rw[ye]at a;have:¬ y=0:=by simpa using a
   simp only[Aq,Op.intDiv,this,if_false];rw[pZ];exact hX (.i _ _)
 case rem=>
  cases a:pG y 0 with
  | true=>rw[a]at h;cases h
  | false=>
   rw[a]at h;injection h with h;subst h;rw[ye]at a;have:¬ y=0:=by simpa using a
   simp only[Aq,Op.intDiv,this,if_false];exact hX (.i _ _)
 case and=>rw[pZ];exact hX (.i _ _)
 case or=>rw[pZ];exact hX (.i _ _)
 case xor=>rw[pZ];exact hX (.i _ _)
 case andNot=>rw[pZ];exact hX (.i _ _)
 case eql=>rw[ye];exact hX (.b _)
 case neq=>rw[ye];exact hX (.b _)
 case lss=>rw[Ap];exact hX (.b _)
 case leq=>rw[Ny];exact hX (.b _)
 case gtr=>rw[Ap];exact hX (.b _)
 case geq=>rw[Ny];exact hX (.b _)
 case shl=>exact absurd rfl c.1
 case shr=>exact absurd rfl c.2
def NB{op:BinOp}{k a:IntKind}{x y:Int}{v:V}(h:GI op k x y=some v):rm P w η (Op.shift op k x a y) v:=by
 unfold GI at h;split at h
 ·cases h
 ·rename_i m;have b:(bif Nat.ble m k.bits then m else k.bits)=min (Int.ofNat m).toNat k.bits:=by
   cases hb:Nat.ble m k.bits with
   | true=>have:=kH hb;simp;omega
   | false=>
    have:¬ m<=k.bits:=λh=>by rw[fK h]at hb;cases hb
    simp;omega
  have c:¬ (Int.ofNat m<0):=by have:=pL m;simp;
  rw[b]at h;unfold Op.shift;simp only[c,if_false];have hp:∀q:Nat,(Int.ofNat (Nat.pow 2 q))=(2:Int) ^ q:=λq=>by show((2 ^ q:Nat):Int)=_;simp
  cases op<;>simp only at h<;>first | (cases h;done) | (injection h with h;subst h)
  ·rw[pZ,hp];exact hX (.i _ _)
  ·rw[hp];exact hX (.i _ _)
def X9(l n:Nat):(strOf l n).toList=bz l n:=by rw[Go.ByteArray.toList_eq];simp[strOf]
def NC{l m l' a:Nat}(h:m<256 ^ l)(h':a<256 ^ l'):((bz l m)==(bz l' a))=(Nat.beq l l'&&Nat.beq m a):=by
 rw[pM];simp only[beq_iff_eq,aK,Nat.beq_eq];constructor
 ·intro e;have hl:l=l':=by have:=congrArg List.length e;simpa[pg]using this
  subst hl;exact⟨rfl,Xy h h' e⟩
 ·rintro⟨rfl,rfl⟩;rfl
def Ya(l m l' a:Nat):Op.bytesLess (bz l m) (bz l' a)=slt l m l' a:=by
 induction l generalizing m l' a with
 | zero=>
  cases l' with
  | zero=>rfl
  | succ l'=>rfl
 | succ l ih=>
  cases l' with
  | zero=>rfl
  | succ l'=>
   simp only[bz,Op.bytesLess,slt];rw[ih];have b:(UInt8.ofNat (m % 256)<UInt8.ofNat (a % 256))↔m % 256<a % 256:=by rw[UInt8.lt_iff_toNat_lt];simp
   have c:(UInt8.ofNat (m % 256)=UInt8.ofNat (a % 256))↔m % 256=a % 256:=by
    constructor
    ·intro e;have:=congrArg UInt8.toNat e;simpa using this
    ·intro e;rw[e]
   show(decide _||(_==_&&slt l (m / 256) l' (a / 256)))=(bif Nat.blt (m % 256) (a % 256) then true else bif Nat.beq (m % 256) (a % 256) then slt l (m / 256) l' (a / 256) else false)
   by_cases h1:m % 256<a % 256
   ·have:Nat.blt (m % 256) (a % 256)=true:=fK h1;rw[this,nE (b.2 h1)];rfl
   ·have:Nat.blt (m % 256) (a % 256)=false:=by
     cases hb:Nat.blt (m % 256) (a % 256) with
     | false=>rfl
     | true=>exact absurd (kH hb) h1
    rw[this,eK (λh=>h1 (b.1 h))];by_cases h2:m % 256=a % 256
    ·rw[h2];simp
    ·have:Nat.beq (m % 256) (a % 256)=false:=by
      cases hb:Nat.beq (m % 256) (a % 256) with
      | false=>rfl
      | true=>exact absurd (bX hb) h2
     rw[this];have:(UInt8.ofNat (m % 256)==UInt8.ofNat (a % 256))=false:=by rw[beq_eq_false_iff_ne];exact λe=>h2 (c.1 e)
     rw[this];rfl
def Yb{op:BinOp}{l m l' a:Nat}{v:V}(hm:m<256 ^ l)(c:a<256 ^ l')(h:Du op l m l' a=some v):rm P w η (Op.stringOp op (strOf l m) (strOf l' a)) v:=by
 unfold Op.stringOp;simp only[X9,NC hm c,Ya];cases op<;>simp only[Du]at h<;>first | (cases h;done) | skip
 case add=>
  cases hb:Nat.ble (Nat.add l l') 9223372036854775807 with
  | false=>rw[hb]at h;cases h
  | true=>
   rw[hb]at h;injection h with h;subst h;have hle:l+l'<=9223372036854775807:=kH hb;have d:IntKind.i64.max=9223372036854775807:=rfl;have:¬ (((strOf l m).size+(strOf l' a).size:Nat):Int)>IntKind.i64.max:=by rw[ri,ri,d];omega
   simp only[this,if_false];have e:strOf l m++strOf l' a=strOf (l+l') (m+a*256 ^ l):=by apply ByteArray.ext;rw[ByteArray.data_append];apply iY;show(_++_:Array UInt8).toList=_;simp[strOf,Xx l m l' a hm]
   rw[e];refine hX (.s _ _ ?_);show m+a*256 ^ l<256 ^ (l+l');rw[Nat.pow_add];have h1:a*256 ^ l<=(256 ^ l' - 1)*256 ^ l:=fJ _ (by omega);have f:0<256 ^ l':=Nat.pow_pos (by omega);have h2:(256 ^ l' - 1)*256 ^ l=256 ^ l'*256 ^ l - 256 ^ l:=by rw[Nat.sub_mul,Nat.one_mul]
   have g:256 ^ l<=256 ^ l'*256 ^ l:=Nat.le_mul_of_pos_left _ f;rw[cT (256 ^ l) (256 ^ l')];omega
 all_goals (injection h with h;subst h;exact hX (.b _))
end ops
end
end Go.Ev
namespace Go.Ev.X
open Go Go.Ev
section
abbrev Env:=List (K×V)
def lk:Env->K->Option V
 | [],_=>none
 | (k,v)::l,x=>bif K.beq k x then some v else lk l x
def Le(E:Env)(T:Tr V):Prop:=∀k v,lk E k=some v->T.get k=some v
def ge(E:Env):au->Option V
 | .t k=>lk E k
 | .c v=>some v
def qG(E:Env):List au->Option (List V)
 | []=>some []
 | x::l=>match ge E x,qG E l with
  | some v,some vs=>some (v::vs)
  | _,_=>none
def Le.nil(T:Tr V):Le [] T:=λ_ _ h=>by cases h
def Le.put{E:Env}{T:Tr V}(h:Le E T)(k:K)(v:V):Le ((k,v)::E) (T.put (some v) k):=by
 intro x w a;rw[Tr.eL];simp only[lk]at a;cases hb:K.beq k x with
 | true=>rw[hb]at a;rw[ao (K.beq_eq hb).symm];exact a
 | false=>
  rw[hb]at a;have:x≠k:=λe=>by rw[e,K.beq_refl]at hb;cases hb
  rw[Θ this];exact h _ _ a
def Le.ge{E:Env}{T:Tr V}(h:Le E T){x:au}{v:V}(a:ge E x=some v):az T x=some v:=by
 cases x with
 | t k=>exact h _ _ a
 | c w=>exact a
def Le.qG{E:Env}{T:Tr V}(h:Le E T):∀{l:List au} {vs:List V},X.qG E l=some vs->eE T l=some vs:=by
 intro l
 induction l with
 | nil=>intro vs hv;exact hv
 | cons x l ih=>
  intro vs hv;simp only[X.qG]at hv;split at hv
  ·rename_i v ws h1 h2;simp only[eE,h.ge h1,ih h2];exact hv
  ·cases hv
def gR(d:Option K)(v:V)(E:Env):Env:=
 match d with
 | some k=>(k,v)::E
 | none=>E
def Le.gR{E:Env}{T:Tr V}(h:Le E T)(d:Option K)(v:V):Le (X.gR d v E) (dh d (some v) T):=by
 cases d with
 | none=>exact h
 | some k=>exact h.put k v
abbrev iN(n:Nat):V:=.i .i64 (n:Nat)
def ρ:Env->Env->Prop
 | [],_=>True
 | (k,v)::l,E=>lk E k=some v/\ρ l E
def Yc(E:Env):Env->List (Option V)
 | []=>[]
 | p::l=>lk E p.1::Yc E l
def ρ.rf:∀{l E:Env},Yc E l=l.map (λp=>some p.2)->ρ l E
 | [],_,_=>trivial
 | (k,v)::l,E,h=>by injection h with h1 h2;exact⟨h1,ρ.rf h2⟩
def Le.sub{E E':Env}{T:Tr V}(h:Le E T):ρ E' E->Le E' T:=by
 induction E' with
 | nil=>intro _;exact Le.nil T
 | cons p E' ih=>
  intro hs k v hv;obtain⟨a,b⟩:=p;simp only[lk]at hv;cases hb:K.beq a k with
  | true=>rw[hb]at hv;cases hv;rw[←K.beq_eq hb];exact h _ _ hs.1
  | false=>rw[hb]at hv;exact ih hs.2 _ _ hv
abbrev Hf:=K->Option O
def hp(h:Hf)(b:K)(o:Option O):Hf:=λk=>if k=b then o else h k
def hY(H:Hp)(b:K)(o:Option O):(H.put o b).get=hp H.get b o:=by funext k;rw[Tr.eL];rfl
def eQ(h:Hf)(b:K)(o:Option O):hp h b o b=o:=by simp[hp]
def mL(h:Hf){b k:K}(o:Option O)(a:k≠b):hp h b o k=h k:=by simp[hp,a]
def gS(h:Hf)(b:K):Option (List V):=
 match h b with
 | some o=>o.row
 | none=>none
def bj(h:Hf)(agg:Bool)(sz:Nat):V->Option V
 | .p b o=>match gS h b with
  | some l=>bif agg then (match ch l o sz with | some l'=>some (.a l') | none=>none) else nth l o
  | none=>none
 | _=>none
def ND{H:Hp}{h:Hf}(e:H.get=h)(b:K):rowAt H b=gS h b:=by subst e;rfl
def DN{H:Hp}{h:Hf}(e:H.get=h)(agg:Bool)(sz:Nat)(a:V):rO H agg sz a=bj h agg sz a:=by subst e;rfl
section
variable (C:Nat->Option aI)
def eR(j:Cv)(H:Hp)(n:K)(r:R):Prop:=∃f0,∀f,f0<=f->ev C f j H n=some r
def Yd(l:List AO)(T:Tr V)(H:Hp)(n:K)(r:R):Prop:=∃f0,∀f,f0<=f->eX (ev C f) l T H n=some r
def SO(op:A)(E:Env)(h:Hf)(n:K)(k:V->Hf->K->Prop):Prop:=
 ∀T H,Le E T->H.get=h->∃v H' n',(∃f0,∀f,f0<=f->oper (ev C f) op T H n=some (v,H',n'))/\k v H'.get n'
def WO(l:List AO)(E:Env)(h:Hf)(n:K)(Q:Env->Hf->K->Prop):Prop:=
 ∀T H,Le E T->H.get=h->∃T' H' n' E',Yd C l T H n ⟨.normal,T',.q,H',n'⟩/\Le E' T'/\Q E' H'.get n'
def WC(c:AC)(E:Env)(h:Hf)(n:K)(Q:Ex->Env->Hf->K->Prop):Prop:=
 ∀T H,Le E T->H.get=h->∃r E',eR C (.code c T) H n r/\Le E' r.T/\Q r.ex E' r.H.get r.n
def ν(f:V)(l:List V)(h:Hf)(n:K)(Q:V->Hf->K->Prop):Prop:=
 ∀H,H.get=h->∃v H' n',eR C (.call f l) H n ⟨.normal,.e,v,H',n'⟩/\Q v H'.get n'
end
section
variable {C:Nat->Option aI}{E E':Env}{h:Hf}{n:K}{Q Q':Ex->Env->Hf->K->Prop}{q q':Env->Hf->K->Prop}
def eR.step{j:Cv}{H:Hp}{r:R}(h:∃f0,∀f,f0<=f->bh C (ev C f) j H n=some r):eR C j H n r:=by
 obtain⟨f0,h⟩:=h;refine⟨f0+1,λf hf=>?_⟩;cases f with
 | zero=>omega
 | succ f=>exact h f (by omega)
def DO{c:AC}(a:WC C c E h n Q)(b:∀ex E h n,Q ex E h n->Q' ex E h n):WC C c E h n Q':=by intro T H d e;obtain⟨r,E',h1,h2,f⟩:=a T H d e;exact⟨r,E',h1,h2,b _ _ _ _ f⟩
def bS{c:AC}(hs:ρ E' E)(a:WC C c E' h n Q):WC C c E h n Q:=λT H b d=>a T H (b.sub hs) d
def χ{c:AC}(a:WC C c E' h n Q)(hs:ρ E' E):WC C c E h n Q:=bS hs a
def ν.mono{f:V}{l:List V}{q q':V->Hf->K->Prop}(a:ν C f l h n q)(b:∀v h n,q v h n->q' v h n):ν C f l h n q':=by intro H c;obtain⟨v,H',n',h1,h2⟩:=a H c;exact⟨v,H',n',h1,b _ _ _ h2⟩
def Ω(a:Q .normal E h n):WC C .skip E h n Q:=λT H b c=>by subst c;exact⟨⟨.normal,T,.q,H,n⟩,E,eR.step ⟨0,λf _=>rfl⟩,b,a⟩
def aJ{id:Nat}(a:Q (.exit id) E h n):WC C (.exit id) E h n Q:=λT H b c=>by subst c;exact⟨⟨.exit id,T,.q,H,n⟩,E,eR.step ⟨0,λf _=>rfl⟩,b,a⟩
def Γ(a:Q .ret E h n):WC C .ret E h n Q:=λT H b c=>by subst c;exact⟨⟨.ret,T,.q,H,n⟩,E,eR.step ⟨0,λf _=>rfl⟩,b,a⟩
def DP{c:AC}(a:WC C c E h n Q):WC C (.scope c) E h n Q:=by intro T H b d;obtain⟨r,E',⟨f0,h1⟩,h2,e⟩:=a T H b d;exact⟨r,E',eR.step ⟨f0,λf hf=>h1 f hf⟩,h2,e⟩
def aA{l:List AO}(a:WO C l E h n (λE h n=>Q .normal E h n)):WC C (.reg l) E h n Q:=by intro T H b c;obtain⟨T',H',n',E',⟨f0,h1⟩,h2,d⟩:=a T H b c;exact⟨⟨.normal,T',.q,H',n'⟩,E',eR.step ⟨f0,λf hf=>h1 f hf⟩,h2,d⟩
def sq(C:Nat->Option aI)(b:AC)(Q:Ex->Env->Hf->K->Prop):Ex->Env->Hf->K->Prop
 | .normal,E,h,n=>WC C b E h n Q
 | .exit i,E,h,n=>Q (.exit i) E h n
 | .ret,E,h,n=>Q .ret E h n
 | .panic v,E,h,n=>Q (.panic v) E h n
def θ{a b:AC}(d:WC C a E h n (sq C b Q)):WC C (.seq a b) E h n Q:=by
 intro T H e g;obtain⟨r,E',⟨f0,h1⟩,h2,c⟩:=d T H e g;obtain⟨ex,T',v,H',n'⟩:=r;cases ex with
 | normal=>
  obtain⟨r,VH,⟨f1,j⟩,k,l⟩:=c T' H' h2 rfl;refine⟨r,VH,eR.step ⟨max f0 f1,λf hf=>?_⟩,k,l⟩;simp only[bh];rw[h1 f (by omega)];exact j f (by omega)
 | exit i=>
  refine⟨_,E',eR.step ⟨f0,λf hf=>?_⟩,h2,c⟩;simp only[bh];rw[h1 f hf]
 | ret=>
  refine⟨_,E',eR.step ⟨f0,λf hf=>?_⟩,h2,c⟩;simp only[bh];rw[h1 f hf]
 | panic u=>
  refine⟨_,E',eR.step ⟨f0,λf hf=>?_⟩,h2,c⟩;simp only[bh];rw[h1 f hf]
def ε{l:List AO}{b:AC}(a:WO C l E h n (λE h n=>WC C b E h n Q)):WC C (.seq (.reg l) b) E h n Q:=θ (aA a)
def cm{c:au}{a b:AC}{x:Bool}(g:ge E c=some (.b x))(ht:x=true->WC C a E h n Q)(hf:x=false->WC C b E h n Q):WC C (.cond c a b) E h n Q:=by
 intro T H d i;cases x with
 | true=>
  obtain⟨r,E',⟨f0,h1⟩,h2,e⟩:=ht rfl T H d i;exact⟨r,E',eR.step ⟨f0,λf hf=>by simp only[bh,d.ge g];exact h1 f hf⟩,h2,e⟩
 | false=>
  obtain⟨r,E',⟨f0,h1⟩,h2,e⟩:=hf rfl T H d i;exact⟨r,E',eR.step ⟨f0,λf hf=>by simp only[bh,d.ge g];exact h1 f hf⟩,h2,e⟩
def ah{c:au}{a b:AC}{x:Bool}(d:ge E c=some (.b x))(f:x=true)(ht:WC C a E h n Q):WC C (.cond c a b) E h n Q:=
 cm d (λ_=>ht) (λe=>by rw[f]at e;cases e)
def ae{c:au}{a b:AC}{x:Bool}(d:ge E c=some (.b x))(f:x=false)(ht:WC C b E h n Q):WC C (.cond c a b) E h n Q:=
 cm d (λe=>by rw[f]at e;cases e) (λ_=>ht)
def blk(id:Nat)(Q:Ex->Env->Hf->K->Prop):Ex->Env->Hf->K->Prop
 | .exit i,E,h,n=>bif Nat.beq id i then Q .normal E h n else Q (.exit i) E h n
 | .normal,E,h,n=>Q .normal E h n
 | .ret,E,h,n=>Q .ret E h n
 | .panic v,E,h,n=>Q (.panic v) E h n
def aj{id:Nat}{c:AC}(b:WC C c E h n (blk id Q)):WC C (.block id c) E h n Q:=by
 intro T H d e;obtain⟨r,E',⟨f0,h1⟩,h2,a⟩:=b T H d e;obtain⟨ex,T',v,H',n'⟩:=r;cases ex with
 | exit i=>
  cases hb:Nat.beq id i with
  | true=>
   refine⟨⟨.normal,T',v,H',n'⟩,E',eR.step ⟨f0,λf hf=>?_⟩,h2,?_⟩
   ·simp only[bh];rw[h1 f hf];simp only[hb,cond_true]
   ·simp only[blk,hb,cond_true]at a;exact a
  | false=>
   refine⟨⟨.exit i,T',v,H',n'⟩,E',eR.step ⟨f0,λf hf=>?_⟩,h2,?_⟩
   ·simp only[bh];rw[h1 f hf];simp only[hb,cond_false]
   ·simp only[blk,hb,cond_false]at a;exact a
 | normal=>
  refine⟨_,E',eR.step ⟨f0,λf hf=>?_⟩,h2,a⟩;simp only[bh];rw[h1 f hf]
 | ret=>
  refine⟨_,E',eR.step ⟨f0,λf hf=>?_⟩,h2,a⟩;simp only[bh];rw[h1 f hf]
 | panic u=>
  refine⟨_,E',eR.step ⟨f0,λf hf=>?_⟩,h2,a⟩;simp only[bh];rw[h1 f hf]
def ax{c:AC}(b:WC C c E h n (sq C (.loop c) Q)):WC C (.loop c) E h n Q:=by
 intro T H d e;obtain⟨r,E',⟨f0,h1⟩,h2,a⟩:=b T H d e;obtain⟨ex,T',v,H',n'⟩:=r;cases ex with
 | normal=>
  obtain⟨r,VH,⟨f1,g⟩,j,k⟩:=a T' H' h2 rfl;refine⟨r,VH,eR.step ⟨max f0 f1,λf hf=>?_⟩,j,k⟩;simp only[bh];rw[h1 f (by omega)];exact g f (by omega)
 | exit i=>
  refine⟨_,E',eR.step ⟨f0,λf hf=>?_⟩,h2,a⟩;simp only[bh];rw[h1 f hf]
 | ret=>
  refine⟨_,E',eR.step ⟨f0,λf hf=>?_⟩,h2,a⟩;simp only[bh];rw[h1 f hf]
 | panic u=>
  refine⟨_,E',eR.step ⟨f0,λf hf=>?_⟩,h2,a⟩;simp only[bh];rw[h1 f hf]
def δ(a:q E h n):WO C [] E h n q:=λT H b c=>by subst c;exact⟨T,H,n,E,⟨0,λf _=>rfl⟩,b,a⟩
def Ye{ih:db}{op:A}{T:Tr V}{H:Hp}{v:V}{H':Hp}{n':K}(a:oper ih op T H n=some (v,H',n')):∃T',dI ih op T H n=some ⟨.normal,T',v,H',n'⟩:=by
 unfold oper at a;split at a
 ·rename_i T' v1 H1 n1 he;cases a;exact⟨T',he⟩
 ·cases a
def cr{d:Option K}{op:A}{Ξ:Nat}{l:List AO}(hs:SO C op E h n (λv h' n'=>WO C l (gR d v E) h' n' q)):WO C (⟨d,op,none,Ξ⟩::l) E h n q:=by intro T H a b;obtain⟨v,H',n',⟨f0,h1⟩,h2⟩:=hs T H a b;obtain⟨T',oz,c,E',⟨f1,e⟩,g,i⟩:=h2 _ H' (a.gR d v) U;refine⟨T',oz,c,E',⟨max f0 f1,λf hf=>?_⟩,g,i⟩;obtain⟨T1,j⟩:=Ye (h1 f (by omega));simp only[eX,want,j];exact e f (by omega)
def ζ{d:Option K}{op:A}{Ξ:Nat}{l:List AO}{g:K}{w x:Bool}(c:lk E g=some (.b x))(e:x=w)(hs:WO C (⟨d,op,none,Ξ⟩::l) E h n q):WO C (⟨d,op,some (g,w),Ξ⟩::l) E h n q:=by intro T H a i;obtain⟨T',H',n',E',⟨f0,h1⟩,h2,j⟩:=hs T H a i;refine⟨T',H',n',E',⟨f0,λf hf=>?_⟩,h2,j⟩;have:=h1 f hf;simp only[eX,want,a _ _ c]at this ⊢;subst e;cases x<;>exact this
def μ{d:Option K}{op:A}{Ξ:Nat}{l:List AO}{g:K}{w x:Bool}(c:lk E g=some (.b x))(e:x=!w)(hs:WO C l (gR d (.u []) E) h n q):WO C (⟨d,op,some (g,w),Ξ⟩::l) E h n q:=by intro T H a i;obtain⟨T',H',n',E',⟨f0,h1⟩,h2,j⟩:=hs _ H (a.gR d _) i;refine⟨T',H',n',E',⟨f0,λf hf=>?_⟩,h2,j⟩;have:=h1 f hf;subst e;simp only[eX,want,a _ _ c];cases w<;>exact this
def dM{d:Option K}{op:A}{Ξ:Nat}{l:List AO}{g:K}{w:Bool}(b:lk E g=some (.u []))(hs:WO C l (gR d (.u []) E) h n q):WO C (⟨d,op,some (g,w),Ξ⟩::l) E h n q:=by intro T H a c;obtain⟨T',H',n',E',⟨f0,h1⟩,h2,e⟩:=hs _ H (a.gR d _) c;refine⟨T',H',n',E',⟨f0,λf hf=>?_⟩,h2,e⟩;have:=h1 f hf;simp only[eX,want,a _ _ b];exact this
def jB:List K->List V->Env->Option Env
 | _,[],E=>some E
 | k::ks,v::vs,E=>jB ks vs ((k,v)::E)
 | [],_::_,_=>none
def NF:∀{ks:List K} {vs:List V} {E E':Env} {T:Tr V},Le E T->jB ks vs E=some E'->∃T',binds ks vs T=some T'/\Le E' T':=by
 intro ks vs
 induction vs generalizing ks with
 | nil=>intro E E' T a he;cases ks<;>(cases he;exact⟨T,rfl,a⟩)
 | cons v vs ih=>
  intro E E' T a he;cases ks with
  | nil=>cases he
  | cons k ks=>exact ih (a.put k v) he
def rp(E:Env)(h:Hf):AR->Option V
 | .t k=>lk E k
 | .cell k agg sz=>match lk E k with
  | some a=>bj h agg sz a
  | none=>none
def ph(E:Env)(h:Hf):List AR->Option (List V)
 | []=>some []
 | r::l=>match rp E h r,ph E h l with
  | some v,some vs=>some (v::vs)
  | _,_=>none
def j6(l:List AR)(E:Env)(h:Hf):Option V:=
 match ph E h l with
 | some [v]=>some v
 | some vs=>some (.u vs)
 | none=>none
def Yf{T:Tr V}{H:Hp}(b:Le E T)(c:H.get=h){r:AR}{v:V}(hv:rp E h r=some v):result T H r=some v:=by
 cases r with
 | t k=>exact b _ _ hv
 | cell k agg sz=>
  simp only[rp]at hv;split at hv
  ·rename_i a d;simp only[result,b _ _ d,DN c];exact hv
  ·cases hv
def Yg{T:Tr V}{H:Hp}(a:Le E T)(b:H.get=h):∀{l:List AR} {vs:List V},ph E h l=some vs->ug T H l=some vs:=by
 intro l
 induction l with
 | nil=>intro vs hv;exact hv
 | cons r l ih=>
  intro vs hv;simp only[ph]at hv;split at hv
  ·rename_i v ws h1 h2;simp only[ug,Yf a b h1,ih h2];exact hv
  ·cases hv
def NG{T:Tr V}{H:Hp}(a:Le E T)(b:H.get=h){l:List AR}{v:V}(hv:j6 l E h=some v):pe l T H=some v:=by
 unfold j6 at hv;unfold pe;cases hl:ph E h l with
 | none=>rw[hl]at hv;cases hv
 | some vs=>rw[hl]at hv;rw[Yg a b hl];exact hv
def fq(res:List AR)(Q:V->Hf->K->Prop):Ex->Env->Hf->K->Prop
 | .normal,E,h,n=>∃v,j6 res E h=some v/\Q v h n
 | .ret,E,h,n=>∃v,j6 res E h=some v/\Q v h n
 | _,_,_,_=>False
def ν.go{g:Nat}{a c l:List V}{af:AF}{Q:V->Hf->K->Prop}(k:C g=some (.go af))(o:jB af.iH (a++(l++c)) []=some E)(p:WC C af.body E h n (fq af.res Q)):ν C (.f g a c) l h n Q:=by
 intro H s;obtain⟨T,m,hle⟩:=NF (Le.nil .e) o;obtain⟨r,E',⟨f0,h1⟩,h2,b⟩:=p T H hle s;obtain⟨ex,T',v,H',n'⟩:=r;cases ex with
 | normal=>
  obtain⟨v,d,j⟩:=b;refine⟨v,H',n',eR.step ⟨f0,λf hf=>?_⟩,j⟩;simp only[bh,k,m];rw[h1 f hf];simp only[NG h2 rfl d]
 | ret=>
  obtain⟨v,d,j⟩:=b;refine⟨v,H',n',eR.step ⟨f0,λf hf=>?_⟩,j⟩;simp only[bh,k,m];rw[h1 f hf];simp only[NG h2 rfl d]
 | exit i=>exact b.elim
 | panic v=>exact b.elim
def ν.pm{g:Nat}{a c l:List V}{p:Pm}{Q:V->Hf->K->Prop}(b:C g=some (.pm p))(hp:∀H:Hp,H.get=h->∃v H' n',Ev.pm p (a++(l++c)) H n=some (v,H',n')/\Q v H'.get n'):ν C (.f g a c) l h n Q:=by intro H d;obtain⟨v,H',n',h1,h2⟩:=hp H d;exact⟨v,H',n',eR.step ⟨0,λf _=>by simp only[bh,b,h1]⟩,h2⟩
end
end
section
abbrev st(bs:List UInt8):V:=.s bs.length (aT bs)
def Yh{a b:List UInt8}(hl:a.length=b.length)(h:aT a=aT b):a=b:=by rw[←GR a,←GR b,hl,h]
def cB(a b:Nat):Nat.beq a b=decide (a=b):=by
 cases h:Nat.beq a b with
 | true=>rw[bX h];simp
 | false=>have:=Nat.ne_of_beq_eq_false h;simp[this]
def iK(a b:Nat):Nat.ble a b=decide (a<=b):=by
 cases h:Nat.ble a b with
 | true=>have:=kH h;simp[this]
 | false=>
  have:¬ a<=b:=λe=>by rw[fK e]at h;cases h
  simp[this]
def eM(a b:Nat):Nat.blt a b=decide (a<b):=by show Nat.ble (a+1) b=_;rw[iK];rfl
def DQ(a b:List UInt8):(Nat.beq a.length b.length&&Nat.beq (aT a) (aT b))=decide (a=b):=by
 rw[cB,cB];by_cases h:a=b
 ·subst h;simp
 ·by_cases hl:a.length=b.length
  ·have:aT a≠aT b:=λe=>h (Yh hl e);simp[hl,this,h]
  ·simp[hl,h]
def G7(bs:List UInt8):∀i,aT bs / 256 ^ i=aT (bs.drop i):=by
 intro i
 induction i generalizing bs with
 | zero=>simp
 | succ i ih=>
  cases bs with
  | nil=>simp[aT]
  | cons b l=>
   rw[fy,cT,←zT];have hb:b.toNat<256:=b.toNat_lt;have:aT (b::l) / 256=aT l:=by simp only[aT];omega
   rw[this,ih];rfl
def Yi(bs:List UInt8):∀k,aT bs % 256 ^ k=aT (bs.take k):=by
 intro k
 induction k generalizing bs with
 | zero=>simp[aT,Nat.mod_one]
 | succ k ih=>
  cases bs with
  | nil=>simp[aT]
  | cons b l=>
   have hb:b.toNat<256:=b.toNat_lt;simp only[mD,aT];rw[←ih,fy,cT (256 ^ k) 256,Nat.mod_mul];have h1:(b.toNat+256*aT l) % 256=b.toNat:=by omega
   have h2:(b.toNat+256*aT l) / 256=aT l:=by omega
   rw[h1,h2]
def As(bs:List UInt8){i:Nat}(h:i<bs.length):FK (aT bs) i=bs[i].toNat:=by show(aT bs / 256 ^ i) % 256=_;rw[G7,eo h];have hb:bs[i].toNat<256:=bs[i].toNat_lt;simp only[aT];omega
def Yj(bs:List UInt8)(a b:Nat):Aa (aT bs) a b=aT ((bs.drop a).take (b - a)):=by show(aT bs / 256 ^ a) % (256 ^ (b - a))=_;rw[G7,Yi]
def Yk(a b:List UInt8):aT (a++b)=aT a+aT b*256 ^ a.length:=by
 induction a with
 | nil=>simp[aT]
 | cons x l ih=>
  simp only[pc,aT,ih,dy,fy];rw[eV,j3];congr 2;rw[cT 256,gn]
def mg:IntKind->Int->Prop
 | .i64,n=>-9223372036854775808<=n/\n<=9223372036854775807
 | .u64,n=>0<=n/\n<=18446744073709551615
 | .u32,n=>0<=n/\n<=4294967295
 | .i32,n=>-2147483648<=n/\n<=2147483647
 | .u8,n=>0<=n/\n<=255
 | _,_=>False
def yf{k:IntKind}{n:Int}(h:mg k n):wr k n=n:=by
 have:fits k n=true:=by cases k<;>cases n<;>simp only[mg,Int.ofNat_eq_natCast]at h<;>simp only[fits,iK]<;>simp<;>omega
 simp[wr,this]
def fS(a b:Int):pG a b=decide (a=b):=by cases a<;>cases b<;>simp only[pG,cB,Int.ofNat_eq_natCast]<;>simp<;>omega
def DR(a b:Int):tG a b=decide (a<b):=by cases a<;>cases b<;>simp only[tG,eM,Int.ofNat_eq_natCast]<;>simp<;>omega
def NH(a b:Int):zZ a b=decide (a<=b):=by rw[zZ,DR];simp only[←decide_not];congr 1;simp;
def ic(k:IntKind):Nat.beq (kn k) (kn k)=true:=by cases k<;>rfl
section
variable {C:Nat->Option aI}{E:Env}{h:Hf}{n:K}{k:V->Hf->K->Prop}
def pj{op:A}(c:∀ih T H n,dI ih op T H n=match simple op T H n with | some (v,H,n)=>some ⟨.normal,.e,v,H,n⟩ | none=>none)
 (hs:∀T H,Le E T->H.get=h->∃v H' n',simple op T H n=some (v,H',n')/\k v H'.get n'):SO C op E h n k:=by
 intro T H d g;obtain⟨v,H',n',h1,h2⟩:=hs T H d g;refine⟨v,H',n',⟨0,λf _=>?_⟩,h2⟩;unfold oper;rw[c,h1]
def eY{op:A}{v:V}(d:∀ih T H n,dI ih op T H n=match simple op T H n with | some (v,H,n)=>some ⟨.normal,.e,v,H,n⟩ | none=>none)
 (hs:∀T H,Le E T->H.get=h->simple op T H n=some (v,H,n))(f:k v h n):SO C op E h n k:=
 pj d λT H g c=>⟨v,H,n,hs T H g c,by rw[c];exact f⟩
def NI{x:au}{v:V}(c:ge E x=some v)(d:k v h n):SO C (.mv x) E h n k:=
 eY (λ_ _ _ _=>rfl) (λT H e f=>by simp only[simple,e.ge c,cW]) d
def NJ{c a b:au}{x:Bool}{v:V}(e:ge E c=some (.b x))(f:x=true)(g:ge E a=some v)(j:k v h n):SO C (.pick c a b) E h n k:=
 eY (λ_ _ _ _=>rfl) (λT H d l=>by subst f;simp only[simple,d.ge e,cond_true,d.ge g,cW]) j
def NK{c a b:au}{x:Bool}{v:V}(e:ge E c=some (.b x))(f:x=false)(g:ge E b=some v)(j:k v h n):SO C (.pick c a b) E h n k:=
 eY (λ_ _ _ _=>rfl) (λT H d l=>by subst f;simp only[simple,d.ge e,cond_false,d.ge g,cW]) j
def j7{op:BinOp}{q:dE}{x y:au}{a b v:V}(d:ge E x=some a)(e:ge E y=some b)(hv:j5 op q a b=some v)(f:k v h n):SO C (.bin op q x y) E h n k:=
 eY (λ_ _ _ _=>rfl) (λT H c g=>by simp only[simple,c.ge d,c.ge e,hv,cW]) f
section
variable {q:dE}{x y:au}{i:IntKind}{a b:Int}
def p0{op:BinOp}(h1:op≠.shl)(h2:op≠.shr):j5 op q (.i i a) (.i i b)=mG op i a b:=by cases op<;>first | contradiction | (simp only[j5,ic,cond_true])
def NL(c:ge E x=some (.i i a))(d:ge E y=some (.i i b))(e:mg i (a+b))(f:k (.i i (a+b)) h n):SO C (.bin .add q x y) E h n k:=
 j7 c d (by rw[p0 (by simp) (by simp)];show some (V.i i (wr i (a+b)))=_;rw[yf e]) f
def NM(c:ge E x=some (.i i a))(d:ge E y=some (.i i b))(e:mg i (a - b))(f:k (.i i (a - b)) h n):SO C (.bin .sub q x y) E h n k:=
 j7 c d (by rw[p0 (by simp) (by simp)];show some (V.i i (wr i (a - b)))=_;rw[yf e]) f
def NN(c:ge E x=some (.i i a))(d:ge E y=some (.i i b))(e:mg i (a*b))(f:k (.i i (a*b)) h n):SO C (.bin .mul q x y) E h n k:=
 j7 c d (by rw[p0 (by simp) (by simp)];show some (V.i i (wr i (a*b)))=_;rw[yf e]) f
def NO{a b:Nat}(c:ge E x=some (.i i a))(d:ge E y=some (.i i b))(hb:0<b)(e:mg i ((a / b:Nat):Int))(f:k (.i i ((a / b:Nat):Int)) h n):SO C (.bin .quo q x y) E h n k:=
 j7 c d (by
  rw[p0 (by simp) (by simp)];have h0:pG (b:Int) 0=false:=by rw[fS];simp;omega
  have h1:Int.tdiv (a:Int) (b:Int)=((a / b:Nat):Int):=by simp
  simp only[mG,h0,cond_false,h1,yf e]) f
def NP{a b:Nat}(c:ge E x=some (.i i a))(d:ge E y=some (.i i b))(hb:0<b)(e:k (.i i ((a % b:Nat):Int)) h n):SO C (.bin .rem q x y) E h n k:=
 j7 c d (by
  rw[p0 (by simp) (by simp)];have h0:pG (b:Int) 0=false:=by rw[fS];simp;omega
  have h1:Int.tmod (a:Int) (b:Int)=((a % b:Nat):Int):=Int.ofNat_tmod a b;simp only[mG,h0,cond_false,h1]) e
def NQ(c:ge E x=some (.i i a))(d:ge E y=some (.i i b))(e:k (.b (decide (a=b))) h n):SO C (.bin .eql q x y) E h n k:=
 j7 c d (by rw[p0 (by simp) (by simp)];simp only[mG,fS]) e
def NR(c:ge E x=some (.i i a))(d:ge E y=some (.i i b))(e:k (.b (!decide (a=b))) h n):SO C (.bin .neq q x y) E h n k:=
 j7 c d (by rw[p0 (by simp) (by simp)];simp only[mG,fS]) e
def NS(c:ge E x=some (.i i a))(d:ge E y=some (.i i b))(e:k (.b (decide (a<b))) h n):SO C (.bin .lss q x y) E h n k:=
 j7 c d (by rw[p0 (by simp) (by simp)];simp only[mG,DR]) e
def Yl(c:ge E x=some (.i i a))(d:ge E y=some (.i i b))(e:k (.b (decide (a<=b))) h n):SO C (.bin .leq q x y) E h n k:=
 j7 c d (by rw[p0 (by simp) (by simp)];simp only[mG,NH]) e
def NT(c:ge E x=some (.i i a))(d:ge E y=some (.i i b))(e:k (.b (decide (b<a))) h n):SO C (.bin .gtr q x y) E h n k:=
 j7 c d (by rw[p0 (by simp) (by simp)];simp only[mG,DR]) e
def NU(c:X.ge E x=some (.i i a))(d:ge E y=some (.i i b))(e:k (.b (decide (b<=a))) h n):SO C (.bin .geq q x y) E h n k:=
 j7 c d (by rw[p0 (by simp) (by simp)];simp only[mG,NH]) e
def NV{j:IntKind}(c:X.ge E x=some (.i i a))(d:mg j a)(e:k (.i j a) h n):SO C (.cv (.toInt j) x) E h n k:=
 eY (λ_ _ _ _=>rfl) (λT H f g=>by simp only[simple,f.ge c,oS,yf d]) e
end
def NW{x:au}{b:Bool}(c:ge E x=some (.b b))(d:k (.b (!b)) h n):SO C (.un .not x) E h n k:=
 eY (λ_ _ _ _=>rfl) (λT H e f=>by simp only[simple,e.ge c,GJ,cW]) d
def Ym{x y:au}{a b:Bool}(c:X.ge E x=some (.b a))(d:X.ge E y=some (.b b))(e:k (.b (a==b)) h n):SO C (.bin .eql (.one .bool) x y) E h n k:=
 j7 c d rfl e
def NX{x y:au}{a b:Bool}(c:X.ge E x=some (.b a))(d:X.ge E y=some (.b b))(e:k (.b (!(a==b))) h n):SO C (.bin .neq (.one .bool) x y) E h n k:=
 j7 c d rfl e
section
variable {q:dE}{x y:au}{a b:List UInt8}
def NY(c:ge E x=some (st a))(d:ge E y=some (st b))(e:k (.b (decide (a=b))) h n):SO C (.bin .eql q x y) E h n k:=
 j7 c d (by show some (V.b (_&&_))=_;rw[DQ]) e
def NZ(c:ge E x=some (st a))(d:ge E y=some (st b))(e:k (.b (!decide (a=b))) h n):SO C (.bin .neq q x y) E h n k:=
 j7 c d (by show some (V.b (!(_&&_)))=_;rw[DQ]) e
def Yn(c:ge E x=some (st a))(d:ge E y=some (st b))(hl:a.length+b.length<=9223372036854775807)(e:k (st (a++b)) h n):SO C (.bin .add q x y) E h n k:=
 j7 c d (by
  show(bif Nat.ble (a.length+b.length) _ then some (V.s (a.length+b.length) (aT a+aT b*256 ^ a.length)) else none)=_
  rw[fK hl,cond_true,st,gp,Yk]) e
def Yo(c:ge E x=some (st a))(d:k (.i .i64 (a.length:Nat)) h n):SO C (.len 0 x) E h n k:=
 eY (λ_ _ _ _=>rfl) (λT H e f=>by simp only[simple,e.ge c];rfl) d
def N0{i:IntKind}{j:Nat}(d:ge E x=some (st a))(e:ge E y=some (.i i (j:Nat)))(hj:j<a.length)(f:k (.i .u8 (a[j].toNat:Nat)) h n):SO C (.idx none x y) E h n k:=
 eY (λ_ _ _ _=>rfl) (λT H c l=>by
  have h1:=c.ge d;have h2:=c.ge e;have g:Nat.blt j a.length=true:=by rw[eM];simpa using hj
  simp only[simple,h1,h2];show(bif Nat.blt j a.length then _ else _)=_
  rw[g,cond_true,As a hj];rfl) f
end
def bd(E:Env)(d:Nat):Option au->Option Nat
 | none=>some d
 | some x=>match ge E x with | some v=>GK v | none=>none
def Le.bd{T:Tr V}(e:Le E T){d:Nat}{x:Option au}{m:Nat}(c:X.bd E d x=some m):cM T d x=some m:=by
 cases x with
 | none=>exact c
 | some x=>
  simp only[X.bd]at c;split at c
  ·rename_i v hv;simp only[cM,e.ge hv];exact c
  ·cases c
def N1{x:au}{lo hi:Option au}{a:List UInt8}{i j:Nat}(d:ge E x=some (st a))(e:bd E 0 lo=some i)(f:bd E a.length hi=some j)(h1:i<=j)(h2:j<=a.length)
 (g:k (st ((a.drop i).take (j - i))) h n):SO C (.sli .str x lo hi none) E h n k:=
 eY (λ_ _ _ _=>rfl) (λT H c t=>by
  have l:=c.ge d;have m:=c.bd e;have o:=c.bd f;simp only[simple,l];show cW H n (ly .str T (.s a.length (aT a)) lo hi none)=_;have p:Nat.ble i j=true:=by rw[iK];simpa using h1
  have r:Nat.ble j a.length=true:=by rw[iK];simpa using h2
  simp only[ly,m,o,p,r,hK,cond_true,cW,Yj];have:Nat.sub j i=((a.drop i).take (j - i)).length:=by simp;show j - i=_;omega
  rw[this]) g
def N2{x:au}{i:Nat}{l:List V}{v:V}(c:ge E x=some (.u l))(hv:nth l i=some v)(d:k v h n):SO C (.ext x i) E h n k:=
 eY (λ_ _ _ _=>rfl) (λT H e f=>by simp only[simple,e.ge c,hv,cW]) d
def Yp{x:au}{o sz:Nat}{l:List V}{v:V}(c:ge E x=some (.a l))(hv:nth l o=some v)(d:k v h n):SO C (.fld false o sz x) E h n k:=
 eY (λ_ _ _ _=>rfl) (λT H e f=>by simp only[simple,e.ge c,hv,cW,cond_false]) d
def gq(E:Env)(zs:List V):List (Nat×Nat×au)->Option (List V)
 | []=>some zs
 | (o,sz,x)::ps=>match ge E x with
  | some v=>bif Nat.beq v.cells.length sz&&aD v.cells then (match cL v.cells zs o with | some c=>gq E c ps | none=>none) else none
  | none=>none
def Le.fill{T:Tr V}(c:Le E T):∀{ps:List (Nat×Nat×au)} {zs l:List V},gq E zs ps=some l->pd T zs ps=some l:=by
 intro ps
 induction ps with
 | nil=>intro zs l hl;exact hl
 | cons p ps ih=>
  intro zs l hl;obtain⟨o,sz,x⟩:=p;simp only[gq]at hl;split at hl
  ·rename_i v hv;simp only[pd,c.ge hv];cases hb:(Nat.beq v.cells.length sz&&aD v.cells) with
   | false=>rw[hb]at hl;cases hl
   | true=>
    rw[hb]at hl;simp only[cond_true]at hl ⊢;split at hl
    ·rename_i e d;first | exact ih hl | (simp only[d];exact ih hl)
    ·cases hl
  ·cases hl
def N3{zs l:List V}{ps:List (Nat×Nat×au)}(hl:gq E zs ps=some l)(c:k (.a l) h n):SO C (.bld zs ps) E h n k:=
 eY (λ_ _ _ _=>rfl) (λT H d e=>by simp only[simple,d.fill hl]) c
def N4{f:Nat}{a c:List au}{bY cs:List V}(e:qG E a=some bY)(g:qG E c=some cs)(j:k (.f f bY cs) h n):SO C (.mfn f a c) E h n k:=
 eY (λ_ _ _ _=>rfl) (λT H d l=>by simp only[simple,d.qG e,d.qG g]) j
def Yq{x:au}{b:K}{o:Nat}(c:ge E x=some (.p b o))(d:k (.p b o) h n):SO C (.nck x) E h n k:=
 eY (λ_ _ _ _=>rfl) (λT H e f=>by simp only[simple,e.ge c]) d
def N5{x y:au}{i:IntKind}{a b:Int}(e:X.ge E x=some (.i i a))(f:X.ge E y=some (.i i b))(g:k (.i i (max a b)) h n):SO C (.mm true [x,y]) E h n k:=
 eY (λ_ _ _ _=>rfl) (λT H c j=>by
  simp only[simple,eE,c.ge e,c.ge f,xV,LF,cond_true,cW,DR];congr 3;by_cases d:a<b
  ·simp[d];omega
  ·simp[d];omega) g
def N6{f:au}{l:List au}{c:V}{vs:List V}(hf:ge E f=some c)(hl:qG E l=some vs)(e:ν C c vs h n k):SO C (.lj f l) E h n k:=by intro T H d g;obtain⟨v,H',n',⟨f0,h1⟩,h2⟩:=e H g;refine⟨v,H',n',⟨f0,λf j=>?_⟩,h2⟩;simp only[oper,dI,d.ge hf,d.qG hl,h1 f j]
end
end
section
def Ext(h:Hf)(n:K)(h':Hf)(n':K):Prop:=n.num<=n'.num/\∀k:K,k.num<n.num->h' k=h k
def Ext.refl(h:Hf)(n:K):Ext h n h n:=⟨φ _,λ_ _=>rfl⟩
def Ext.trans{h h1 h2:Hf}{n n1 c:K}(a:Ext h n h1 n1)(b:Ext h1 n1 h2 c):Ext h n h2 c:=
 ⟨dU a.1 b.1,λk d=>by rw[b.2 k (ep d a.1),a.2 k d]⟩
def Ext.trans'{h h1 h2:Hf}{n n1 b:K}(a:Ext h n h1 n1)(b1:n1.num<=b.num)(b2:∀k:K,k.num<n.num->h2 k=h1 k):Ext h n h2 b:=
 ⟨dU a.1 b1,λk c=>by rw[b2 k c,a.2 k c]⟩
def Ext.new{h h1:Hf}{n n1:K}(a:Ext h n h1 n1)(o:Option O):Ext h n (hp h1 n1 o) n1.succ:=
 ⟨by rw[K.eF];have:=a.1;omega,λk b=>by rw[mL _ _ (λe=>by subst e;have:=a.1;omega),a.2 k b]⟩
def Ext.succ{h h1:Hf}{n n1:K}(a:Ext h n h1 n1):Ext h n h1 n1.succ:=⟨by rw[K.eF];have:=a.1;omega,a.2⟩
def Ext.row{h h':Hf}{n n':K}(a:Ext h n h' n'){b:K}(hb:b.num<n.num):gS h' b=gS h b:=by unfold gS;rw[a.2 b hb]
def Ext.ld{h h':Hf}{n n':K}(a:Ext h n h' n'){b:K}(hb:b.num<n.num)(agg:Bool)(sz o:Nat):bj h' agg sz (.p b o)=bj h agg sz (.p b o):=by simp only[bj,a.row hb]
def p7{a b:K}(h:a.num≠b.num):a≠b:=λe=>h (by rw[e])
def Ys(h:Hf)(b:K)(o:O):gS (hp h b (some o)) b=o.row:=by simp[gS,eQ]
section
variable {C:Nat->Option aI}{E:Env}{h:Hf}{n:K}{k:V->Hf->K->Prop}
def Au{op:A}{o:O}{v:V}(b:∀ih T H n,dI ih op T H n=match simple op T H n with | some (v,H,n)=>some ⟨.normal,.e,v,H,n⟩ | none=>none)
 (hs:∀T H,Le E T->H.get=h->simple op T H n=js H n o v)(c:k v (hp h n (some o)) n.succ):SO C op E h n k:=
 pj b λT H d a=>⟨v,H.put (some o) n,n.succ,hs T H d a,by rw[hY,a];exact c⟩
def Yt{e:Nat}{zs:List V}(a:k (.p n 0) (hp h n (some (.c zs e 0))) n.succ):SO C (.new e zs) E h n k:=
 Au (λ_ _ _ _=>rfl) (λT H b d=>rfl) a
def Yu{e:Nat}{x:au}{v:V}{cs:List V}(a:ge E x=some v)(b:v.cells=cs)(d:aD cs=true)(f:k (.p n 0) (hp h n (some (.c cs e 0))) n.succ):SO C (.box e x) E h n k:=
 Au (λ_ _ _ _=>rfl) (λT H g i=>by simp only[simple,g.ge a,b,d,cond_true]) f
def Yv{e len:Nat}{zs l:List V}{ps:List (Nat×Nat×au)}(hl:gq E zs ps=some l)(a:k (.sl n 0 len len) (hp h n (some (.c l e 0))) n.succ):SO C (.bsl e zs len ps) E h n k:=
 Au (λ_ _ _ _=>rfl) (λT H b d=>by simp only[simple,b.fill hl]) a
def Yw{e esz bytes m:Nat}{z:List V}{x y:au}{i j:IntKind}(b:ge E x=some (.i i (m:Nat)))(d:ge E y=some (.i j (m:Nat)))(hb:m*bytes<=140737488355328)(f:m<=9223372036854775807)
 (g:k (.sl n 0 m m) (hp h n (some (.c (dL z m) e 0))) n.succ):SO C (.msl e esz bytes z x y) E h n k:=
 Au (λ_ _ _ _=>rfl) (λT H a l=>by
  simp only[simple,a.ge b,a.ge d];show(bif Nat.ble m m&&Nat.ble (m*bytes) 140737488355328&&Nat.ble m 9223372036854775807 then _ else _)=_
  rw[fK (φ m),fK hb,fK f];rfl) g
def Yx{agg:Bool}{sz:Nat}{a:au}{p v:V}(b:ge E a=some p)(hv:bj h agg sz p=some v)(c:k v h n):SO C (.ld agg sz a) E h n k:=
 eY (λ_ _ _ _=>rfl) (λT H d e=>by simp only[simple,d.ge b,DN e,hv,cW]) c
def N7{o off:Nat}{x:au}{b:K}(a:ge E x=some (.p b o))(c:k (.p b (o+off)) h n):SO C (.fad off x) E h n k:=
 eY (λ_ _ _ _=>rfl) (λT H d e=>by simp only[simple,d.ge a];rfl) c
def ju(l:List V)(fz o sz:Nat)(v:V):Option (List V):=
 bif Nat.beq v.cells.length sz&&(Nat.ble fz o&&aD v.cells) then cL v.cells l o else none
def Yy{sz:Nat}{a x:au}{b:K}{o e fz:Nat}{l l':List V}{v:V}(g:ge E a=some (.p b o))(i:ge E x=some v)(hb:h b=some (.c l e fz))(hl:ju l fz o sz v=some l')
 (j:k (.u []) (hp h b (some (.c l' e fz))) n):SO C (.st sz a x) E h n k:=
 pj (λ_ _ _ _=>rfl) λT H d f=>by
  refine⟨.u [],H.put (some (.c l' e fz)) b,n,?_,by rw[hY,f];exact j⟩;unfold ju at hl;cases h1:Nat.beq v.cells.length sz with
  | false=>rw[h1]at hl;cases hl
  | true=>
   rw[h1]at hl;cases h2:(Nat.ble fz o&&aD v.cells) with
   | false=>rw[h2]at hl;cases hl
   | true=>
    rw[h2]at hl;simp only[hK,cond_true]at hl;have m:H.get b=some (.c l e fz):=by rw[f];exact hb
    simp only[simple,d.ge g,d.ge i,yZ,h1,cond_true,fB,m,h2,hl,oy]
def _root_.Go.Ev.V.blk:V->K
 | .sl b _ _ _ | .su b _ _ _=>b
 | _=>.h
def _root_.Go.Ev.V.off:V->Nat
 | .sl _ o _ _ | .su _ o _ _=>o
 | _=>0
def κ(h:Hf)(n:K)(z:Nat)(v:V)(len:Nat)(cs:List V):Prop:=
 cs.length=len*z/\((v=.ns/\len=0)\/((∃b o c,((v=.sl b o len c/\len<=c)\/v=.su b o len z)/\b.num<n.num)/\∃row,gS h v.blk=some row/\ch row v.off (len*z)=some cs))
def κ.ns(h:Hf)(n:K)(z:Nat):κ h n z .ns 0 []:=⟨by simp,Or.inl ⟨rfl,rfl⟩⟩
def κ.ext{h h':Hf}{n n':K}{z:Nat}{v:V}{len:Nat}{cs:List V}(a:κ h n z v len cs)(e:Ext h n h' n'):κ h' n' z v len cs:=by
 obtain⟨h1,h2⟩:=a;refine⟨h1,h2.imp id λ⟨⟨b,o,c,d,f⟩,row,g,i⟩=>⟨⟨b,o,c,d,ep f e.1⟩,row,?_,i⟩⟩;have:v.blk=b:=by cases d with | inl e=>rw[e.1];rfl | inr e=>rw[e];rfl
 rw[e.row (by rw[this];exact f)];exact g
def κ.pk{h:Hf}{n:K}{z:Nat}{v:V}{len:Nat}{cs:List V}(a:κ h n z v len cs)(hl:0<len):v.blk.num<n.num:=by
 obtain⟨h1,h2⟩:=a;cases h2 with
 | inl h=>omega
 | inr h=>obtain⟨⟨b,o,c,f,d⟩,_⟩:=h;cases f with | inl e=>rw[e.1];exact d | inr e=>rw[e];exact d
def κ.one{h:Hf}{n:K}{z:Nat}{v:V}{len:Nat}{cs:List V}(a:κ h n z v len cs):v.one=true:=by
 obtain⟨h1,h2⟩:=a;cases h2 with
 | inl h=>rw[h.1];rfl
 | inr h=>obtain⟨⟨b,o,c,d,f⟩,_⟩:=h;cases d with | inl e=>rw[e.1];rfl | inr e=>rw[e];rfl
def κ.cells{h:Hf}{n:K}{z:Nat}{v:V}{len:Nat}{cs:List V}(a:κ h n z v len cs):v.cells=[v]:=by
 obtain⟨h1,h2⟩:=a;cases h2 with
 | inl h=>rw[h.1];rfl
 | inr h=>obtain⟨⟨b,o,c,d,f⟩,_⟩:=h;cases d with | inl e=>rw[e.1];rfl | inr e=>rw[e];rfl
def sk{α:Type}{l:List α}{o m:Nat}(hl:o+m<=l.length):ch l o m=some ((l.drop o).take m):=by
 have h1:∀(o:Nat) (l:List α),o<=l.length->lM o l=some (l.drop o):=by
  intro o
  induction o with
  | zero=>intro l _;rfl
  | succ o ih=>intro l hl;cases l with
   | nil=>simp at hl
   | cons a l=>exact ih l (by simpa using hl)
 have h2:∀(m:Nat) (l:List α),m<=l.length->takeN m l=some (l.take m):=by
  intro m
  induction m with
  | zero=>intro l _;simp[takeN]
  | succ m ih=>intro l hl;cases l with
   | nil=>simp at hl
   | cons a l=>simp only[takeN,ih l (by simpa using hl),mD]
 unfold ch;rw[h1 o l (by omega)];exact h2 m _ (by simp;omega)
def N8{α:Type}{l cs:List α}{o m i j:Nat}(hs:ch l o m=some cs)(a:i+j<=m):ch l (o+i) j=some ((cs.drop i).take j):=by obtain⟨e,hl⟩:=mJ hs;rw[sk (by omega),e,List.drop_take,List.take_take,List.drop_drop];congr 2;omega
def N9{α:Type}{l cs:List α}{o m i:Nat}(hs:ch l o m=some cs)(hi:i<m):nth l (o+i)=nth cs i:=by obtain⟨e,hl⟩:=mJ hs;rw[nK,nK,e,List.getElem?_take,ao hi,vL]
def κ.get{z:Nat}{v:V}{len:Nat}{cs:List V}(a:κ h n z v len cs){i:Nat}{w:V}(hi:nth cs i=some w)(sz:Nat):bj h false sz (.p v.blk (v.off+i))=some w:=by
 obtain⟨h1,h2⟩:=a;have b:i<cs.length:=by rw[nK]at hi;exact(mC.1 hi).1
 cases h2 with
 | inl h=>rw[h1,h.2]at b;omega
 | inr h=>
  obtain⟨_,row,c,d⟩:=h;simp only[bj,c,cond_false];rw[N9 d (by omega)];exact hi
def κ.jP{z:Nat}{v:V}{len:Nat}{cs:List V}(a:κ h n z v len cs){i sz:Nat}(hi:i+sz<=len*z)(d:0<len):bj h true sz (.p v.blk (v.off+i))=some (.a ((cs.drop i).take sz)):=by
 obtain⟨h1,h2⟩:=a;cases h2 with
 | inl h=>omega
 | inr h=>
  obtain⟨_,row,b,c⟩:=h;simp only[bj,b,cond_true,N8 c hi]
def Yz{z:Nat}{x:au}{v:V}{len:Nat}{cs:List V}{h0:Hf}{n0:K}(f:ge E x=some v)(a:κ h0 n0 z v len cs)(g:k (.i .i64 (len:Nat)) h n):SO C (.len 1 x) E h n k:=
 eY (λ_ _ _ _=>rfl) (λT H j m=>by
  have e:=j.ge f;obtain⟨h1,h2⟩:=a;cases h2 with
  | inl h=>rw[h.1]at e;simp only[simple,e,h.2];rfl
  | inr h=>
   obtain⟨⟨b,o,c,l,p⟩,_⟩:=h;cases l with
   | inl d=>replace d:=d.1;rw[d]at e;simp only[simple,e];rfl
   | inr d=>rw[d]at e;simp only[simple,e];rfl) g
def Oa{z:Nat}{x y:au}{v:V}{len i:Nat}{j:IntKind}{cs:List V}{h0:Hf}{n0:K}(m:ge E x=some v)(q:ge E y=some (.i j (i:Nat)))(a:κ h0 n0 z v len cs)(hi:i<len)
 (r:k (.p v.blk (v.off+i*z)) h n):SO C (.iad none z x y) E h n k:=
 eY (λ_ _ _ _=>rfl) (λT H f t=>by
  have e:=f.ge m;have g:az T y=some (.i j (Int.ofNat i)):=f.ge q;have l:Nat.blt i len=true:=by rw[eM];simpa using hi
  obtain⟨h1,h2⟩:=a;cases h2 with
  | inl h=>omega
  | inr h=>
   obtain⟨⟨b,o,c,s,u⟩,_⟩:=h;cases s with
   | inl d=>replace d:=d.1;rw[d]at e;simp only[simple,e,g,l,cond_true,d];rfl
   | inr d=>rw[d]at e;simp only[simple,e,g,l,cond_true,d];rfl) r
def sn(T:Tr V)(d:Nat):cM T d none=some d:=rfl
def Ob{z:Nat}{x:au}{lo hi:Option au}{v:V}{len i j:Nat}{cs:List V}(r:ge E x=some v){n0:K}(a:κ h n0 z v len cs)(s:bd E 0 lo=some i)(t:bd E len hi=some j)(h1:i<=j)(h2:j<=len)
 (u:∀v',κ h n0 z v' (j - i) ((cs.drop (i*z)).take ((j - i)*z))->(v'.len=j - i/\v'.blk=v.blk/\(v=.ns->v'=.ns))->k v' h n):SO C (.sli (.sl z) x lo hi none) E h n k:=by
 obtain⟨g1,I⟩:=a;have hm:i*z+(j - i)*z<=len*z:=by rw[←fM];exact fJ z (by omega)
 have hlen:((cs.drop (i*z)).take ((j - i)*z)).length=(j - i)*z:=by simp;omega
 cases I with
 | inl g=>
  have y:i=0:=by omega
  have A:j=0:=by omega
  refine eY (v:=.ns) (λ_ _ _ _=>rfl) (λT H f B=>?_) (u .ns ⟨hlen,Or.inl ⟨rfl,by omega⟩⟩ ⟨by subst y;subst A;rfl,by rw[g.1],λ_=>rfl⟩);have e:=f.ge r;have m:=f.bd s;have l:=f.bd t;rw[g.1]at e;rw[g.2]at l;subst y;subst A;simp only[simple,e,ly,m,l,sn,cW]
 | inr g=>
  obtain⟨⟨b,o,c,d,D⟩,row,q,F⟩:=g;have p:ch row (v.off+i*z) ((j - i)*z)=some ((cs.drop (i*z)).take ((j - i)*z)):=N8 F hm;cases d with
  | inl d=>
   obtain⟨d,L⟩:=d;have w:(bif Nat.beq c i then o else Nat.add o (Nat.mul i z))=o+i*z\/j - i=0:=by
    cases hb:Nat.beq c i with
    | true=>right;have:=bX hb;omega
    | false=>left;rfl
   refine eY (v:=.sl b (bif Nat.beq c i then o else Nat.add o (Nat.mul i z)) (j - i) (c - i)) (λ_ _ _ _=>rfl) (λT H f B=>?_) (u _ ⟨hlen,Or.inr ⟨⟨b,_,_,Or.inl ⟨rfl,by omega⟩,D⟩,row,?_,?_⟩⟩ ⟨rfl,by rw[d];rfl,λe=>by rw[d]at e;cases e⟩)
   ·have e:=f.ge r;have m:=f.bd s;have l:=f.bd t;rw[d]at e;have b1:Nat.ble i j=true:=fK h1;have b2:Nat.ble j c=true:=fK (by omega);have b3:Nat.ble c c=true:=fK (φ c);simp only[simple,e,ly,m,l,sn,b1,b2,b3,hK,cond_true,cW];rfl
   ·rw[d]at q;exact q
   ·rw[d]at p;cases w with
    | inl w=>show ch row (bif Nat.beq c i then o else Nat.add o (Nat.mul i z)) _=_;rw[w];exact p
    | inr h0=>
     have G:=(mJ F).2;rw[h0];simp only[Nat.zero_mul,List.take_zero];show ch row (bif Nat.beq c i then o else Nat.add o (Nat.mul i z)) 0=some []
     rw[d]at G;have M:o<=row.length:=by have:(V.sl b o len c).off=o:=rfl;rw[this]at G;omega
     cases hb:Nat.beq c i with
     | true=>rw[cond_true,sk (by omega)];simp
     | false=>
      have J:=(mJ p).2;have:(V.sl b o len c).off=o:=rfl;rw[this]at J;rw[cond_false,sk (by show o+i*z+0<=_;omega)];simp
  | inr d=>
   refine eY (v:=.su b (o+i*z) (j - i) z) (λ_ _ _ _=>rfl) (λT H f B=>?_) (u _ ⟨hlen,Or.inr ⟨⟨b,_,0,Or.inr U,D⟩,row,?_,?_⟩⟩ ⟨rfl,by rw[d];rfl,λe=>by rw[d]at e;cases e⟩)
   ·have e:=f.ge r;have m:=f.bd s;have l:=f.bd t;rw[d]at e;have b1:Nat.ble i j=true:=fK h1;have b2:Nat.ble j len=true:=fK h2;have b3:Nat.beq z z=true:=by rw[cB];simp
    simp only[simple,e,ly,m,l,sn,b1,b2,b3,hK,cond_true,cW];rfl
   ·rw[d]at q;exact q
   ·rw[d]at p;exact p
def YC{z:Nat}{x hi mx:au}{v:V}{len:Nat}{cs:List V}{A B:IntKind}(r:ge E x=some v){n0:K}(a:κ h n0 z v len cs)(D:ge E hi=some (.i A (len:Nat)))(F:ge E mx=some (.i B (len:Nat)))
 (s:∀v',κ h n0 z v' len cs->(v'.len=len/\v'.blk=v.blk/\(v=.ns->v'=.ns))->k v' h n):SO C (.sli (.sl z) x none (some hi) (some mx)) E h n k:=by
 obtain⟨g1,G⟩:=a;have l:∀{T:Tr V},Le E T->∀d,cM T d (some hi)=some len:=λj d=>j.bd (by simp only[bd,D];rfl);have m:∀{T:Tr V},Le E T->∀d,cM T d (some mx)=some len:=λj d=>j.bd (by simp only[bd,F];rfl);have b3:Nat.ble len len=true:=fK (φ len);have t:Nat.ble 0 len=true:=fK (pN len);cases G with
 | inl g=>
  refine eY (v:=.ns) (λ_ _ _ _=>rfl) (λT H j u=>?_) (s .ns ⟨g1,Or.inl ⟨rfl,g.2⟩⟩ ⟨by rw[g.2];rfl,by rw[g.1],λ_=>rfl⟩);have e:=j.ge r;rw[g.1]at e;have l:=l j;have m:=m j;rw[g.2]at l m;simp only[simple,e,ly,l,m,sn,cW]
 | inr g=>
  obtain⟨⟨b,o,c,f,w⟩,row,p,q⟩:=g;cases f with
  | inl f=>
   obtain⟨f,I⟩:=f;have y:(bif Nat.beq len 0 then o else Nat.add o (Nat.mul 0 z))=o:=by
    cases Nat.beq len 0 with
    | true=>rfl
    | false=>show o+0*z=o;omega
   refine eY (v:=.sl b o len len) (λ_ _ _ _=>rfl) (λT H j u=>?_) (s _ ⟨g1,Or.inr ⟨⟨b,_,_,Or.inl ⟨rfl,by omega⟩,w⟩,row,?_,?_⟩⟩ ⟨rfl,by rw[f];rfl,λe=>by rw[f]at e;cases e⟩)
   ·have e:=j.ge r;rw[f]at e;have b2:Nat.ble len c=true:=fK I;simp only[simple,e,ly,l j,m j,sn,t,b2,b3,hK,cond_true,cW,y];rfl
   ·rw[f]at p;exact p
   ·rw[f]at q;exact q
  | inr f=>
   have b4:Nat.beq z z=true:=by rw[cB];simp
   by_cases hl:len=0
   ·subst hl;refine eY (v:=.su b o 0 z) (λ_ _ _ _=>rfl) (λT H j u=>?_) (s _ ⟨g1,Or.inr ⟨⟨b,_,0,Or.inr U,w⟩,row,?_,?_⟩⟩ ⟨rfl,by rw[f],λe=>by rw[f]at e;cases e⟩)
    ·have e:=j.ge r;rw[f]at e;simp only[simple,e,ly,l j,m j,sn,t,b4,hK,cond_true,cW];rfl
    ·rw[f]at p;exact p
    ·rw[f]at q;exact q
   ·have b5:Nat.beq len 0=false:=by rw[cB];simp[hl]
    have y:Nat.add o (Nat.mul 0 z)=o:=by show o+0*z=o;omega
    refine eY (v:=.sl b o len len) (λ_ _ _ _=>rfl) (λT H j u=>?_) (s _ ⟨g1,Or.inr ⟨⟨b,_,_,Or.inl ⟨rfl,by omega⟩,w⟩,row,?_,?_⟩⟩ ⟨rfl,by rw[f];rfl,λe=>by rw[f]at e;cases e⟩)
    ·have e:=j.ge r;rw[f]at e;simp only[simple,e,ly,l j,m j,sn,t,b3,b4,b5,hK,cond_true,cond_false,cW,y];rfl
    ·rw[f]at p;exact p
    ·rw[f]at q;exact q
def κ.elems{z:Nat}{v:V}{len:Nat}{cs:List V}(a:κ h n z v len cs){H:Hp}(l:H.get=h):elems H z v=some (len,cs):=by
 obtain⟨g1,m⟩:=a;have b4:Nat.beq z z=true:=by rw[cB];simp
 cases m with
 | inl g=>
  have:cs=[]:=by rw[g.2]at g1;simpa using g1
  rw[g.1,g.2,this];rfl
 | inr g=>
  obtain⟨⟨b,o,c,d,p⟩,row,f,i⟩:=g;cases d with
  | inl d=>
   rw[d.1]at f i;have e:rowAt H b=some row:=by rw[ND l];exact f
   have j:ch row o (Nat.mul len z)=some cs:=i;rw[d.1];simp only[Ev.elems,e,j]
  | inr d=>
   rw[d]at f i;have e:rowAt H b=some row:=by rw[ND l];exact f
   have j:ch row o (Nat.mul len z)=some cs:=i;rw[d];simp only[Ev.elems,e,j,b4,cond_true];cases hl:Nat.beq len 0 with
   | true=>
    have:len=0:=bX hl;have:cs=[]:=by rw[this]at g1;simpa using g1
    rw[this,cond_true];simp[bX hl]
   | false=>rfl
def room{l m bytes:Nat}(h1:(l+m)*bytes<=1000000000)(h2:bytes<=100000)(a:l+m<=1000000000):
 (!(Nat.ble (Nat.mul (Nat.add l m) bytes) 1000000000&&Nat.ble bytes 100000&&Nat.ble (Nat.add l m) 1000000000))=false:=by
 have b:Nat.ble (Nat.mul (Nat.add l m) bytes) 1000000000=true:=fK h1;have c:Nat.ble bytes 100000=true:=fK h2;have d:Nat.ble (Nat.add l m) 1000000000=true:=fK a;rw[b,c,d];rfl
def YD{e z bytes m:Nat}{i new:List V}{s x:au}{v:V}(hs:ge E s=some .ns)(f:ge E x=some v)(a:κ h n z v m new)(h1:m*bytes<=1000000000)(h2:bytes<=100000)(q:m<=1000000000)
 (j:m=0->k .ns h n)(o:0<m->k (.su n 0 m z) (hp h n (some (.c new e 0))) n.succ):SO C (.app e z bytes i false s x) E h n k:=
 pj (λ_ _ _ _=>rfl) λT H b d=>by
  have p:=room (l:=0) (m:=m) (bytes:=bytes) (by simpa using h1) h2 (by omega);have g:(!(Nat.ble (Nat.mul (Nat.add (V.len .ns) m) bytes) 1000000000&&Nat.ble bytes 100000&&Nat.ble (Nat.add (V.len .ns) m) 1000000000))=false:=p;by_cases hm:m=0
  ·refine⟨.ns,H,n,?_,by rw[d];exact j hm⟩;have hb:Nat.beq m 0=true:=by rw[cB];simpa using hm
   simp only[simple,b.ge hs,b.ge f,a.elems d,cond_false,r7,g,hb,cond_true]
  ·refine⟨.su n 0 m z,H.put (some (.c new e 0)) n,n.succ,?_,by rw[hY,d];exact o (by omega)⟩;have hb:Nat.beq m 0=false:=by rw[cB];simpa using hm
   simp only[simple,b.ge hs,b.ge f,a.elems d,cond_false,r7,g,hb,js]
def ea(h:Hf)(e z:Nat)(v:V)(len:Nat)(cs:List V):Prop:=
 cs.length=len*z/\((v=.ns/\len=0)\/(0<len/\∃b,v=.su b 0 len z/\h b=some (.c cs e 0)))
def ea.ns(h:Hf)(e z:Nat):ea h e z .ns 0 []:=⟨by simp,Or.inl ⟨rfl,rfl⟩⟩
def ea.At(v:V)(lo hi:K):Prop:=v=.ns\/(lo.num<=v.blk.num/\v.blk.num<hi.num)
def YE{e z bytes m len:Nat}{q new cs:List V}{s x:au}{o v:V}(hs:ge E s=some o)(r:ea h e z o len cs)(p:ge E x=some v)(a:κ h n z v m new)(h1:(len+m)*bytes<=1000000000)(h2:bytes<=100000)(t:len+m<=1000000000)
 (hm:0<m)(u:aD new=true)(i:∀h',(∀b:K,b.num<n.num->(o=.ns\/b≠o.blk)->h' b=h b)->h' n=some (.c (cs++new) e 0)->k (.su n 0 (len+m) z) h' n.succ)(w:o=.ns\/o.blk.num<n.num):SO C (.app e z bytes q false s x) E h n k:=
 pj (λ_ _ _ _=>rfl) λT H f d=>by
  obtain⟨g1,y⟩:=r;have hb:Nat.beq m 0=false:=by rw[cB];simp;omega
  cases y with
  | inl g=>
   obtain⟨rfl,rfl⟩:=g;have j:(!(Nat.ble (Nat.mul (Nat.add (V.len .ns) m) bytes) 1000000000&&Nat.ble bytes 100000&&Nat.ble (Nat.add (V.len .ns) m) 1000000000))=false:=room (l:=0) (m:=m) (bytes:=bytes) (by simpa using h1) h2 (by omega);have A:cs=[]:=by simpa using g1
   subst A;refine⟨.su n 0 m z,H.put (some (.c new e 0)) n,n.succ,?_,?_⟩
   ·simp only[simple,f.ge hs,f.ge p,a.elems d,cond_false,r7,j,hb,js]
   ·rw[hY,d];have:=i (hp h n (some (.c new e 0))) (λb hb _=>mL _ _ (p7 (by omega))) (eQ _ _ _);rw[eW]at this;exact this
  | inr g=>
   obtain⟨hl,b,rfl,B⟩:=g;have j:(!(Nat.ble (Nat.mul (Nat.add (V.len (.su b 0 len z)) m) bytes) 1000000000&&Nat.ble bytes 100000&&Nat.ble (Nat.add (V.len (.su b 0 len z)) m) 1000000000))=false:=room (l:=len) (m:=m) (bytes:=bytes) h1 h2 t;have I:b.num<n.num:=by cases w with | inl e=>cases e | inr e=>exact e
   have D:H.get b=some (.c cs e 0):=by rw[d];exact B
   have b1:Nat.beq e e=true:=by rw[cB];simp
   have b2:Nat.beq z z=true:=by rw[cB];simp
   have b3:Nat.ble 0 (Nat.add 0 (Nat.mul len z))=true:=fK (pN _);have b4:ch cs 0 (Nat.mul len z)=some cs:=by rw[sk (by show 0+len*z<=_;omega)];simp;show List.take (len*z) cs=cs;rw[←g1,eN]
   refine⟨.su n 0 (len+m) z,(H.put none b).put (some (.c (cs++new) e 0)) n,n.succ,?_,?_⟩
   ·simp only[simple,f.ge hs,f.ge p,a.elems d,cond_false,r7,j,hb,D,b1,b2,b3,u,hK,cond_true,b4,js];rfl
   ·rw[hY,hY,d];refine i _ (λk i F=>?_) (eQ _ _ _);have G:k≠b:=by cases F with | inl e=>cases e | inr e=>exact e
    rw[mL _ _ (p7 (by omega)),mL _ _ G]
def κ.of{b:K}{o c z len:Nat}{row cs:List V}(hb:b.num<n.num)(a:gS h b=some row)(d:len<=c)(hl:cs.length=len*z)(hs:ch row o (len*z)=some cs):κ h n z (.sl b o len c) len cs:=
 ⟨hl,Or.inr ⟨⟨b,o,c,Or.inl ⟨rfl,d⟩,hb⟩,row,a,hs⟩⟩
def iL{l:List V}{m:Nat}(h:l.length=m):ch l 0 m=some l:=by rw[sk (by omega)];simp[←h]
def κ.whole{b:K}{e fz z len:Nat}{row:List V}(hb:b.num<n.num)(a:h b=some (.c row e fz))(hl:row.length=len*z):κ h n z (.sl b 0 len len) len row:=
 κ.of hb (by simp[gS,a,O.row]) (φ _) hl (iL hl)
def ea.sl{e z:Nat}{v:V}{len:Nat}{cs:List V}(a:ea h e z v len cs)(c:v=.ns\/v.blk.num<n.num):κ h n z v len cs:=by
 obtain⟨g1,d⟩:=a;refine⟨g1,d.imp id λ⟨hl,b,f,g⟩=>?_⟩;subst f;have hb:b.num<n.num:=by cases c with | inl e=>cases e | inr e=>exact e
 exact⟨⟨b,0,0,Or.inr U,hb⟩,cs,by simp[gS,V.blk,g,O.row],iL g1⟩
def ea.ext{e z:Nat}{v:V}{len:Nat}{cs:List V}(a:ea h e z v len cs){h':Hf}(he:v=.ns\/h' v.blk=h v.blk):ea h' e z v len cs:=by
 obtain⟨g1,d⟩:=a;refine⟨g1,d.imp id λ⟨hl,b,c,f⟩=>⟨hl,b,c,?_⟩⟩;subst c;cases he with
 | inl e=>cases e
 | inr e=>
  have:h' b=h b:=e;rw[this,f]
end
end
end Go.Ev.X
