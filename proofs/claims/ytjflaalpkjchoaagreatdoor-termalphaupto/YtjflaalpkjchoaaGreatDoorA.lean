/- A part of the proof. -/
import Derived.Calls
import Derived.Laws.Sem
import Derived.Laws.Strings
set_option linter.all false
namespace Go.Ev
def U{α:Sort _}{a:α}:a=a:=rfl
abbrev ξ:=@Nat.le_refl
abbrev cC:=@decide_eq_true_eq
abbrev aD:=@Bool.and_eq_true
abbrev gT:=@decide_eq_false_iff_not
abbrev bY:=@Nat.eq_of_beq_eq_true
abbrev dY:=@List.getD_eq_getElem?_getD
abbrev gL:=@List.drop_eq_getElem_cons
abbrev gj:=@Array.getElem?_setIfInBounds
abbrev Γ:=@if_neg
abbrev aX:=@List.getElem?_eq_getElem
abbrev ab:=@if_pos
abbrev eE:=@Nat.lt_of_lt_of_le
abbrev eR:=@Nat.mul_comm
abbrev eh:=@List.length_cons
abbrev gE:=@Nat.mul_le_mul_right
abbrev gk:=@Nat.ble_eq_true_of_le
abbrev bL:=@List.getElem_mem
abbrev gm:=@List.take_succ_eq_append_getElem
abbrev fB:=@decide_eq_false
abbrev fO:=@List.take_length
abbrev oS:=@List.drop_length
abbrev mg:=@Array.getElem?_eq_getElem
abbrev gU:=@Bool.cond_eq_ite
abbrev cD:=@List.mem_cons
abbrev fC:=@Nat.le_of_lt
abbrev mU:=@Array.getElem?_eq_some_iff
abbrev j4:=@Nat.le_of_ble_eq_true
abbrev mh:=@Array.getElem?_toList
abbrev iM:=@Nat.pow_succ
abbrev jT:=@Nat.mul_assoc
abbrev iO:=@Nat.mul_add
abbrev mV:=@Bool.false_eq_true
abbrev ot:=@List.take_of_length_le
abbrev jz:=@List.length_append
abbrev cZ:=@List.getElem?_eq_some_iff
abbrev ic:=@step_lone_go
abbrev eF:=@Nat.le_trans
abbrev qR:=@List.drop_eq_nil_of_le
abbrev eV:=@Nat.zero_add
abbrev qa:=@List.getElem?_cons_succ
abbrev ie:=@Nat.add_mul
abbrev j5:=@List.length_set
abbrev jA:=@Nat.lt_or_ge
abbrev sL:=@Nat.mul_le_mul_left
abbrev ig:=@List.drop_zero
abbrev ou:=@Nat.mul_zero
abbrev j6:=@Nat.add_zero
abbrev mj:=@Nat.add_assoc
abbrev eY:=@List.map_cons
abbrev vM:=@Array.getD_eq_getD_getElem?
abbrev j7:=@List.take_succ_cons
abbrev kV:=@Option.some.injEq
abbrev oT:=@List.getElem?_append_left
abbrev zf:=@List.getElem_cons_zero
abbrev qS:=@Int.natCast_nonneg
abbrev mW:=@List.length_nil
abbrev fD:=@List.getElem_of_mem
abbrev mX:=@Bool.or_eq_true
abbrev ov:=@List.length_take
abbrev kW:=@List.length_eq_zero_iff
abbrev xj:=@List.getElem?_cons_zero
abbrev jB:=@Array.ext'
abbrev tN:=@List.mem_of_mem_take
abbrev kX:=@List.all_eq_true
abbrev kp:=@Nat.mul_one
abbrev ml:=@List.getElem?_eq_none
abbrev qb:=@decide_eq_true
abbrev ox:=@Option.map_some
abbrev qT:=@Bool.eq_iff_iff
abbrev oU:=@Nat.mod_lt
abbrev sM:=@List.length_drop
abbrev qc:=@List.getElem?_append_right
abbrev oV:=@List.getElem_cons_succ
abbrev iX:=@Bool.and_self
abbrev mY:=@Nat.sub_zero
abbrev Bq:=@Nat.pos_of_ne_zero
abbrev j8:=@List.cons_append
abbrev Br:=@Nat.pow_le_pow_right
abbrev vN:=@List.range_eq_range'
abbrev kY:=@Nat.sub_self
abbrev oW:=@Nat.add_comm
abbrev qd:=@Bool.not_eq_true'
abbrev Bs:=@Nat.lt_of_mul_lt_mul_right
abbrev tO:=@List.not_mem_nil
abbrev Bt:=@Nat.div_lt_iff_lt_mul
abbrev Et:=@List.take_append_drop
abbrev gF:=@List.mem_singleton
abbrev Bu:=@List.getElem?_toArray
abbrev vO:=@Bool.false_and
abbrev zg:=@List.mem_of_mem_drop
abbrev zh:=@Nat.div_add_mod
abbrev eG:=@List.mem_append
abbrev ji:=@List.length_map
abbrev zi:=@List.getElem_set_ne
abbrev tP:=@Bool.true_and
abbrev zj:=@Array.length_toList
abbrev zk:=@Array.getElem?_push
abbrev zm:=@Nat.mod_eq_of_lt
abbrev zp:=@Nat.mul_le_mul
abbrev Bw:=@Nat.div_div_eq_div_mul
abbrev qe:=@List.set_cons_succ
abbrev vP:=@List.getElem?_drop
abbrev oy:=@Nat.zero_le
abbrev qf:=@Nat.min_eq_left
abbrev Bx:=@List.mem_append_right
abbrev xk:=@List.getElem_set_self
abbrev zq:=@Nat.lt_trichotomy
abbrev ku:=@List.append_assoc
abbrev xm:=@Array.size_append
abbrev Eu:=@Nat.mul_lt_mul_of_pos_left
abbrev xn:=@Bool.or_eq_false_iff
abbrev zt:=@Option.bind_some
abbrev qg:=@List.ext_getElem
abbrev sN:=@Bool.not_eq_true
abbrev xo:=@List.replicate_succ
abbrev zu:=@List.drop_succ_cons
abbrev Bz:=@Option.isSome_iff_exists
abbrev tQ:=@Nat.succ_mul
end Go.Ev
namespace Go.Ev
open Go
inductive K where
 | h
 | o (p:K)
 | i (p:K)
 deriving Inhabited
inductive V where
 | b (x:Bool)
 | i (k:IntKind) (n:Int)
 | s (l n:Nat)
 | np
 | p (b:K) (o:Nat)
 | ns
 | sl (b:K) (o l c:Nat)
 | su (b:K) (o l e:Nat)
 | nm
 | m (b:K)
 | nf
 | f (f:Nat) (a c:List V)
 | y (l:K)
 | ni
 | j9 (t:Nat) (v:V)
 | a (l:List V)
 | u (l:List V)
 | q
 deriving Inhabited
inductive ao where
 | t (n:K)
 | c (v:V)
 deriving Inhabited
inductive EK where
 | bool | int | str | ptr | slice | map | func | iface
 deriving Inhabited
inductive dR where
 | one (k:EK)
 | agg (l:List (Nat×EK))
 deriving Inhabited
inductive MT where
 | toInt (k:IntKind)
 | same
 | BA
 | Hz (e:Nat)
 | AL
 | GQ
 | GR (u:Nat)
 deriving Inhabited
inductive XU where
 | str
 | sl (esz:Nat)
 | arr (n esz:Nat)
 deriving Inhabited
inductive A where
 | mv (x:ao)
 | pick (c a b:ao)
 | new (e:Nat) (zs:List V)
 | Ew (e:Nat) (x y:V)
 | MU (x:ao)
 | BB (u:Nat) (p l:ao)
 | box (e:Nat) (x:ao)
 | bld (zs:List V) (ps:List (Nat×Nat×ao))
 | bsl (e:Nat) (zs:List V) (len:Nat) (ps:List (Nat×Nat×ao))
 | ld (agg:Bool) (sz:Nat) (a:ao)
 | st (sz:Nat) (a x:ao)
 | nck (x:ao)
 | bin (op:BinOp) (k:dR) (x y:ao)
 | un (op:UnOp) (x:ao)
 | cv (k:MT) (x:ao)
 | mif (t:Nat) (x:ao)
 | mfn (f:Nat) (a c:List ao)
 | mmap
 | msl (e esz bytes:Nat) (z:List V) (l c:ao)
 | sli (k:XU) (x:ao) (lo hi mx:Option ao)
 | fad (off:Nat) (x:ao)
 | fld (agg:Bool) (off sz:Nat) (x:ao)
 | iad (arr:Option Nat) (esz:Nat) (x i:ao)
 | idx (arr:Option (Nat×Nat×Bool)) (x i:ao)
 | lkp (q:dR) (z:V) (ok:Bool) (m k:ao)
 | GS (q:dR) (m k v:ao)
 | DC (OU:Bool) (x:ao)
 | HA (str:Bool) (x:ao)
 | GU (x:ao)
 | tas (t:Nat) (z:V) (ok:Bool) (x:ao)
 | ext (x:ao) (n:Nat)
 | app (e esz bytes:Nat) (z:List V) (vQ:Bool) (s x:ao)
 | yI (esz:Nat) (d x:ao)
 | len (k:Nat) (x:ao)
 | cap (arr:Option Nat) (x:ao)
 | mm (mx:Bool) (l:List ao)
 | GV (z:List V) (x:ao)
 | lO (f:ao) (l:List ao)
 | tR (x:ao)
 | bad
 deriving Inhabited
structure AO where
 dst:Option K
 op:A
 guard:Option (K×Bool)
 Δ:Nat
 deriving Inhabited
inductive AC where
 | skip
 | reg (l:List AO)
 | regd (l:List AO)
 | seq (a b:AC)
 | cond (c:ao) (a b:AC)
 | block (id:Nat) (c:AC)
 | loop (c:AC)
 | oX (f:ao) (ps:List K) (bZ body:AC)
 | exit (id:Nat)
 | scope (c:AC)
 | jC (d:Option K) (x:ao) (l:List AO) (c:AC) (ws:List K)
 | ret
 | bad
 deriving Inhabited
inductive AR where
 | t (n:K)
 | cell (a:K) (agg:Bool) (sz:Nat)
 deriving Inhabited
structure AF where
 jj:List K
 res:List AR
 body:AC
 deriving Inhabited
structure zw where
 jj:List K
 res:List AR
 pre:List AO
 HB:K
 g:Nat
 gM:List ao
 body:AC
 HC:List K
 HD:K
 HE:AC
 deriving Inhabited
inductive Ex where
 | normal
 | exit (id:Nat)
 | ret
 | panic (v:V)
 deriving Inhabited
inductive Tr(α:Type) where
 | e
 | n (v:Option α) (l r:Tr α)
 deriving Inhabited
def Tr.get{α:Type}:Tr α->K->Option α
 | .e,_=>none
 | .n v _ _,.h=>v
 | .n _ l _,.o p=>l.get p
 | .n _ _ r,.i p=>r.get p
def Tr.xp{α:Type}(v:Option α):K->Tr α
 | .h=>.n v .e .e
 | .o p=>.n none (Tr.xp v p) .e
 | .i p=>.n none .e (Tr.xp v p)
def Tr.put{α:Type}(v:Option α):Tr α->K->Tr α
 | .e,k=>Tr.xp v k
 | .n _ l r,.h=>.n v l r
 | .n w l r,.o p=>.n w (Tr.put v l p) r
 | .n w l r,.i p=>.n w l (Tr.put v r p)
inductive O where
 | c (l:List V) (e fz:Nat)
 | r (l:List V)
 | b (x y:V) (e:Nat)
 | mp (es:List (V×V×Nat)) (c:Nat)
 | mi (b:K) (c:Nat)
 | me (m:K) (c t:Nat)
 | it (l n pos:Nat)
 | lp (ready:Bool) (gn:Ex) (T:Tr V) (ps:List K) (bZ body:AC)
 deriving Inhabited
def K.succ:K->K
 | .h=>.o .h
 | .o p=>.i p
 | .i p=>.o p.succ
abbrev Hp:=Tr O
structure TE where
 args:List V
 n:K
 bQ:Hp
 v:V
 add:Hp
 n':K
 deriving Inhabited
inductive Pm where
 | tS | same
 | jw (l:List TE)
 | BC (bQ:Hp) (v:V)
 deriving Inhabited
inductive aE where
 | go (f:AF)
 | pm (p:Pm)
 | xq (f:zw)
 deriving Inhabited
abbrev fY:=Option (V×Hp×K)
def nth{α:Type}:List α->Nat->Option α
 | [],_=>none
 | a::_,0=>some a
 | _::l,n+1=>nth l n
def takeN{α:Type}:Nat->List α->Option (List α)
 | 0,_=>some []
 | _+1,[]=>none
 | n+1,a::l=>match takeN n l with | some l'=>some (a::l') | none=>none
def mn{α:Type}:Nat->List α->Option (List α)
 | 0,l=>some l
 | _+1,[]=>none
 | n+1,_::l=>mn n l
def over{α:Type}:List α->List α->Option (List α)
 | [],l=>some l
 | _::_,[]=>none
 | v::vs,_::l=>match over vs l with | some l'=>some (v::l') | none=>none
def cJ{α:Type}(vs:List α):List α->Nat->Option (List α)
 | l,0=>over vs l
 | [],_+1=>none
 | a::l,n+1=>match cJ vs l n with | some l'=>some (a::l') | none=>none
def cw{α:Type}(l:List α)(o n:Nat):Option (List α):=
 match mn o l with
 | some l'=>takeN n l'
 | none=>none
def V.cells:V->List V
 | .a l=>l
 | v=>[v]
def V.one:V->Bool
 | .a _ | .u _ | .q=>false
 | _=>true
def K.beq:K->K->Bool
 | .h,.h=>true
 | .o a,.o b=>a.beq b
 | .i a,.i b=>a.beq b
 | _,_=>false
def kn:IntKind->Nat
 | .i8=>0 | .i16=>1 | .i32=>2 | .i64=>3 | .u8=>4 | .u16=>5 | .u32=>6 | .u64=>7
def fits:IntKind->Int->Bool
 | .i64,.ofNat n=>Nat.ble n 9223372036854775807
 | .i64,.negSucc n=>Nat.ble n 9223372036854775807
 | .u8,.ofNat n=>Nat.ble n 255
 | .i32,.ofNat n=>Nat.ble n 2147483647
 | .i32,.negSucc n=>Nat.ble n 2147483647
 | .u32,.ofNat n=>Nat.ble n 4294967295
 | .u64,.ofNat n=>Nat.ble n 18446744073709551615
 | .u16,.ofNat n=>Nat.ble n 65535
 | _,_=>false
def wr(k:IntKind)(n:Int):Int:=bif fits k n then n else k.wrap n
def qI:Int->Int->Bool
 | .ofNat a,.ofNat b=>Nat.beq a b
 | .negSucc a,.negSucc b=>Nat.beq a b
 | _,_=>false
def vh:Int->Int->Bool
 | .ofNat a,.ofNat b=>Nat.blt a b
 | .negSucc a,.negSucc b=>Nat.blt b a
 | .negSucc _,.ofNat _=>true
 | .ofNat _,.negSucc _=>false
def BD(a b:Int):Bool:=!(vh b a)
def mZ(op:BinOp)(k:IntKind)(x y:Int):Option V:=
 match op with
 | .add=>some (.i k (wr k (Int.add x y)))
 | .sub=>some (.i k (wr k (Int.sub x y)))
 | .mul=>some (.i k (wr k (Int.mul x y)))
 | .quo=>bif qI y 0 then none else some (.i k (wr k (Int.tdiv x y)))
 | .rem=>bif qI y 0 then none else some (.i k (Int.tmod x y))
 | .and=>some (.i k (wr k (Int.ofNat (BitVec.ofInt k.bits x &&& BitVec.ofInt k.bits y).toNat)))
 | .or=>some (.i k (wr k (Int.ofNat (BitVec.ofInt k.bits x ||| BitVec.ofInt k.bits y).toNat)))
 | .xor=>some (.i k (wr k (Int.ofNat (BitVec.ofInt k.bits x ^^^ BitVec.ofInt k.bits y).toNat)))
 | .andNot=>some (.i k (wr k (Int.ofNat (BitVec.ofInt k.bits x &&& ~~~BitVec.ofInt k.bits y).toNat)))
 | .eql=>some (.b (qI x y))
 | .neq=>some (.b (!(qI x y)))
 | .lss=>some (.b (vh x y))
 | .leq=>some (.b (BD x y))
 | .gtr=>some (.b (vh y x))
 | .geq=>some (.b (BD y x))
 | _=>none
def HF(op:BinOp)(k:IntKind)(x y:Int):Option V:=
 match y with
 | .negSucc _=>none
 | .ofNat m=>
  let n:=bif Nat.ble m k.bits then m else k.bits
  match op with
  | .shl=>some (.i k (wr k (Int.mul x (Int.ofNat (Nat.pow 2 n)))))
  | .shr=>some (.i k (Int.fdiv x (Int.ofNat (Nat.pow 2 n))))
  | _=>none
def slt:Nat->Nat->Nat->Nat->Bool
 | 0,_,l',_=>!(Nat.beq l' 0)
 | _+1,_,0,_=>false
 | l+1,n,l'+1,n'=>bif Nat.blt (Nat.mod n 256) (Nat.mod n' 256) then true
  else bif Nat.beq (Nat.mod n 256) (Nat.mod n' 256) then slt l (Nat.div n 256) l' (Nat.div n' 256) else false
def Ey(op:BinOp)(l n l' n':Nat):Option V:=
 match op with
 | .add=>bif Nat.ble (Nat.add l l') 9223372036854775807 then some (.s (Nat.add l l') (Nat.add n (Nat.mul n' (Nat.pow 256 l)))) else none
 | .eql=>some (.b (Nat.beq l l'&&Nat.beq n n'))
 | .neq=>some (.b (!(Nat.beq l l'&&Nat.beq n n')))
 | .lss=>some (.b (slt l n l' n'))
 | .leq=>some (.b (slt l n l' n'||(Nat.beq l l'&&Nat.beq n n')))
 | .gtr=>some (.b (!(slt l n l' n'||(Nat.beq l l'&&Nat.beq n n'))))
 | .geq=>some (.b (!(slt l n l' n')))
 | _=>none
def GW(n i:Nat):Nat:=Nat.mod (Nat.div n (Nat.pow 256 i)) 256
def BE(n a b:Nat):Nat:=Nat.mod (Nat.div n (Nat.pow 256 a)) (Nat.pow 256 (Nat.sub b a))
def zy:Nat->Nat->List V
 | 0,_=>[]
 | l+1,n=>.i .u8 (Int.ofNat (Nat.mod n 256))::zy l (Nat.div n 256)
def ofBytes:List V->Option Nat
 | []=>some 0
 | .i .u8 (.ofNat b)::l=>match ofBytes l with
  | some n=>bif Nat.blt b 256 then some (Nat.add b (Nat.mul 256 n)) else none
  | none=>none
 | _::_=>none
def dL:EK->V->V->Option Bool
 | .bool,.b x,.b y=>some (x==y)
 | .int,.i k x,.i k' y=>bif Nat.beq (kn k) (kn k') then some (qI x y) else none
 | .str,.s l n,.s l' n'=>some (Nat.beq l l'&&Nat.beq n n')
 | .ptr,.np,.np=>some true
 | .ptr,.np,.p _ _=>some false
 | .ptr,.p _ _,.np=>some false
 | .ptr,.p b o,.p b' o'=>bif K.beq b b' then some (Nat.beq o o') else none
 | .slice,.ns,.ns=>some true
 | .slice,.ns,.sl _ _ _ _=>some false
 | .slice,.ns,.su _ _ _ _=>some false
 | .slice,.sl _ _ _ _,.ns=>some false
 | .slice,.su _ _ _ _,.ns=>some false
 | .map,.nm,.nm=>some true
 | .map,.nm,.m _=>some false
 | .map,.m _,.nm=>some false
 | .func,.nf,.nf=>some true
 | .func,.nf,.f _ _ _=>some false
 | .func,.f _ _ _,.nf=>some false
 | .iface,.ni,.j9 _ _=>some false
 | .iface,.j9 _ _,.ni=>some false
 | .iface,.ni,.ni=>some true
 | _,_,_=>none
def AM(xs ys:List V):List (Nat×EK)->Option Bool
 | []=>some true
 | (i,q)::l=>match nth xs i,nth ys i with
  | some x,some y=>match dL q x y with
   | some true=>AM xs ys l
   | some false=>some false
   | none=>none
  | _,_=>none
def kZ(k:dR)(x y:V):Option Bool:=
 match k with
 | .one q=>dL q x y
 | .agg l=>match x,y with
  | .a xs,.a ys=>AM xs ys l
  | _,_=>none
def mq(op:BinOp)(k:dR)(x y:V):Option V:=
 match op,x,y with
 | .shl,.i k a,.i _ b=>HF .shl k a b
 | .shr,.i k a,.i _ b=>HF .shr k a b
 | op,.i k a,.i k' b=>bif Nat.beq (kn k) (kn k') then mZ op k a b else none
 | op,.s l n,.s l' n'=>Ey op l n l' n'
 | .eql,x,y=>match kZ k x y with | some b=>some (.b b) | none=>none
 | .neq,x,y=>match kZ k x y with | some b=>some (.b (!b)) | none=>none
 | _,_,_=>none
def HG(op:UnOp)(x:V):Option V:=
 match op,x with
 | .neg,.i k n=>some (.i k (wr k (Int.sub 0 n)))
 | .not,.b b=>some (.b (!b))
 | .xor,.i k n=>mZ .xor k (if k.signed then -1 else k.max) n
 | _,_=>none
def O.row:O->Option (List V)
 | .c l _ _=>some l
 | .r l=>some l
 | .b x y _=>some [x,y]
 | _=>none
def rowAt(H:Hp)(b:K):Option (List V):=
 match H.get b with
 | some o=>o.row
 | none=>none
def tD(H:Hp)(agg:Bool)(sz:Nat):V->Option V
 | .p b o=>match rowAt H b with
  | some l=>bif agg then (match cw l o sz with | some l'=>some (.a l') | none=>none) else nth l o
  | none=>none
 | _=>none
def aB:List V->Bool
 | []=>true
 | v::l=>v.one&&aB l
def gq(H:Hp)(b:K)(o:Nat)(vs:List V):Option Hp:=
 match H.get b with
 | some (.c l e fz)=>bif Nat.ble fz o&&aB vs then
  (match cJ vs l o with | some l'=>some (H.put (some (.c l' e fz)) b) | none=>none) else none
 | some (.b x y e)=>bif aB vs then
  (match cJ vs [x,y] o with | some [a,d]=>some (H.put (some (.b a d e)) b) | _=>none) else none
 | _=>none
def AN(H:Hp)(sz:Nat)(a x:V):Option Hp:=
 match a with
 | .p b o=>bif Nat.beq x.cells.length sz then gq H b o x.cells else none
 | _=>none
def jD(H:Hp)(n:K)(o:O)(v:V):fY:=some (v,H.put (some o) n,n.succ)
def aq(T:Tr V):ao->Option V
 | .t k=>T.get k
 | .c v=>some v
def eZ(T:Tr V):List ao->Option (List V)
 | []=>some []
 | x::l=>match aq T x,eZ T l with
  | some v,some vs=>some (v::vs)
  | _,_=>none
def qh(T:Tr V)(zs:List V):List (Nat×Nat×ao)->Option (List V)
 | []=>some zs
 | (o,sz,x)::ps=>match aq T x with
  | some v=>bif Nat.beq v.cells.length sz&&aB v.cells then (match cJ v.cells zs o with | some a=>qh T a ps | none=>none) else none
  | none=>none
def dS(z:List V):Nat->List V
 | 0=>[]
 | n+1=>z++dS z n
def HH:V->Option Nat
 | .i _ (.ofNat n)=>some n
 | _=>none
def cL(T:Tr V)(d:Nat):Option ao->Option Nat
 | none=>some d
 | some x=>match aq T x with | some v=>HH v | none=>none
def lP(k:XU)(T:Tr V)(x:V)(lo hi mx:Option ao):Option V:=
 match k,x with
 | .str,.s l n=>match cL T 0 lo,cL T l hi,mx with
  | some a,some b,none=>bif Nat.ble a b&&Nat.ble b l then some (.s (Nat.sub b a) (BE n a b)) else none
  | _,_,_=>none
 | .sl _,.ns=>match cL T 0 lo,cL T 0 hi,cL T 0 mx with
  | some 0,some 0,some 0=>some .ns
  | _,_,_=>none
 | .sl z,.sl b o l c=>match cL T 0 lo,cL T l hi,cL T c mx with
  | some p,some q,some m=>bif Nat.ble p q&&Nat.ble q m&&Nat.ble m c then
   some (.sl b (bif Nat.beq m p then o else Nat.add o (Nat.mul p z)) (Nat.sub q p) (Nat.sub m p)) else none
  | _,_,_=>none
 | .sl z,.su b o l e=>match mx with
  | none=>match cL T 0 lo,cL T l hi with
   | some p,some q=>bif Nat.ble p q&&Nat.ble q l&&Nat.beq z e then some (.su b (Nat.add o (Nat.mul p z)) (Nat.sub q p) e) else none
   | _,_=>none
  | some m=>match cL T 0 lo,cL T l hi,cL T 0 (some m) with
   | some p,some q,some m=>bif Nat.ble p q&&Nat.ble q m&&Nat.ble m l&&Nat.beq z e then
    bif Nat.beq l 0 then some (.su b o 0 e) else some (.sl b (bif Nat.beq m p then o else Nat.add o (Nat.mul p z)) (Nat.sub q p) (Nat.sub m p)) else none
   | _,_,_=>none
 | .arr n z,.p b o=>match cL T 0 lo,cL T n hi,cL T n mx with
  | some p,some q,some m=>bif Nat.ble p q&&Nat.ble q m&&Nat.ble m n then
   some (.sl b (bif Nat.beq m p then o else Nat.add o (Nat.mul p z)) (Nat.sub q p) (Nat.sub m p)) else none
  | _,_,_=>none
 | _,_=>none
def elems(H:Hp)(z:Nat):V->Option (Nat×List V)
 | .ns=>some (0,[])
 | .sl b o l _=>match rowAt H b with
  | some r=>match cw r o (Nat.mul l z) with | some vs=>some (l,vs) | none=>none
  | none=>none
 | .su b o l e=>bif Nat.beq e z then (bif Nat.beq l 0 then some (0,[]) else match rowAt H b with
  | some r=>match cw r o (Nat.mul l z) with | some vs=>some (l,vs) | none=>none
  | none=>none) else none
 | .s l n=>bif Nat.beq z 1 then some (l,zy l n) else none
 | _=>none
def V.len:V->Nat
 | .sl _ _ l _ | .su _ _ l _=>l
 | _=>0
def tT(H:Hp)(n:K)(e z bytes:Nat)(s:V)(m:Nat)(new:List V):fY:=
 bif !(Nat.ble (Nat.mul (Nat.add s.len m) bytes) 1000000000&&Nat.ble bytes 100000&&Nat.ble (Nat.add s.len m) 1000000000) then none else
 match s with
 | .ns=>bif Nat.beq m 0 then some (.ns,H,n) else jD H n (.c new e 0) (.su n 0 m z)
 | .sl b o l c=>
  bif Nat.ble (Nat.add l m) c then
   (bif Nat.beq m 0 then some (.sl b o l c,H,n) else match gq H b (Nat.add o (Nat.mul l z)) new with | some H'=>some (.sl b o (Nat.add l m) c,H',n) | none=>none)
  else match elems H z (.sl b o l c) with
   | some (_,bC)=>jD H n (.c (bC++new) e 0) (.su n 0 (Nat.add l m) z)
   | none=>none
 | .su b o l a=>
  bif Nat.beq m 0 then some (.su b o l a,H,n) else
  match H.get b with
  | some (.c r d fz)=>bif Nat.beq e d&&Nat.beq z a&&Nat.ble fz (Nat.add o (Nat.mul l z))&&aB new then
   (match cw r o (Nat.mul l z) with
   | some bC=>jD (H.put none b) n (.c (bC++new) e (Nat.sub fz o)) (.su n 0 (Nat.add l m) z)
   | none=>none) else none
  | _=>none
 | _=>none
def vS(q:dR)(k:V):List (V×V×Nat)->Option (Option V)
 | []=>some none
 | (k',v,_)::es=>match kZ q k k' with
  | some true=>some (some v)
  | some false=>vS q k es
  | none=>none
def vT(t:Nat):List (V×V×Nat)->Option (V×V)
 | []=>none
 | (k,v,t')::es=>bif Nat.beq t' t then some (k,v) else vT t es
def xr(q:dR)(k v:V)(c:Nat):List (V×V×Nat)->Option (List (V×V×Nat)×Bool)
 | []=>some ([(k,v,c)],true)
 | (k',v',t)::es=>match kZ q k k' with
  | some true=>match q with | .one _=>some ((k,v,t)::es,false) | .agg _=>none
  | some false=>match xr q k v c es with | some (a,b)=>some ((k',v',t)::a,b) | none=>none
  | none=>none
def hasAll(xs:List V):List (Nat×EK)->Bool
 | []=>true
 | (i,_)::l=>(match nth xs i with | some _=>true | none=>false)&&hasAll xs l
def oY:dR->V->Bool
 | .one _,_=>true
 | .agg l,.a xs=>hasAll xs l
 | _,_=>false
def cU(H:Hp)(n:K):Option V->fY
 | some v=>some (v,H,n)
 | none=>none
def oZ(n:K):Option Hp->fY
 | some H=>some (.u [],H,n)
 | none=>none
def MV(mx:Bool):V->V->Option V
 | .i k x,.i _ y=>some (.i k (bif (bif mx then vh x y else vh y x) then y else x))
 | _,_=>none
def zA(f:V->V->Option V)(a:V):List V->Option V
 | []=>some a
 | v::l=>match f a v with | some a'=>zA f a' l | none=>none
def rune(l n:Nat):Nat×Nat:=
 let a:=Nat.mod n 256;let b1:=Nat.mod (Nat.div n 256) 256;let b2:=Nat.mod (Nat.div n 65536) 256;let b3:=Nat.mod (Nat.div n 16777216) 256
 bif Nat.blt a 128 then (a,1)
 else bif Nat.beq (Nat.div a 32) 6&&(Nat.blt 1 l&&Nat.beq (Nat.div b1 64) 2) then
  let c:=(a % 32)*64+b1 % 64
  bif Nat.ble 128 c then (c,2) else (65533,1)
 else bif Nat.beq (Nat.div a 16) 14&&(Nat.blt 1 l&&Nat.beq (Nat.div b1 64) 2)&&(Nat.blt 2 l&&Nat.beq (Nat.div b2 64) 2) then
  let c:=(a % 16)*4096+(b1 % 64)*64+b2 % 64
  bif Nat.ble 2048 c&&(Nat.blt c 55296||(Nat.ble 57344 c&&Nat.ble c 1114111)) then (c,3) else (65533,1)
 else bif Nat.beq (Nat.div a 8) 30&&(Nat.blt 1 l&&Nat.beq (Nat.div b1 64) 2)&&(Nat.blt 2 l&&Nat.beq (Nat.div b2 64) 2)&&(Nat.blt 3 l&&Nat.beq (Nat.div b3 64) 2) then
  let c:=(a % 8)*262144+(b1 % 64)*4096+(b2 % 64)*64+b3 % 64
  bif Nat.ble 65536 c&&Nat.ble c 1114111 then (c,4) else (65533,1)
 else (65533,1)
def tU:Nat->Nat->Nat->List V
 | 0,_,_=>[]
 | f+1,l,n=>bif Nat.beq l 0 then [] else
  let r:=rune l n
  .i .i32 (Int.ofNat r.1)::tU f (Nat.sub l r.2) (Nat.div n (Nat.pow 256 r.2))
def qU(m:Nat):Bool:=Nat.blt m 55296||(Nat.ble 57344 m&&Nat.ble m 1114111)
def oz(m:Nat):Nat:=bif Nat.blt m 128 then 1 else bif Nat.blt m 2048 then 2 else bif Nat.blt m 65536 then 3 else 4
def qV(m:Nat):Nat:=
 bif Nat.blt m 128 then m
 else bif Nat.blt m 2048 then (192+m / 64)+256*(128+m % 64)
 else bif Nat.blt m 65536 then (224+m / 4096)+256*((128+m / 64 % 64)+256*(128+m % 64))
 else (240+m / 262144)+256*((128+m / 4096 % 64)+256*((128+m / 64 % 64)+256*(128+m % 64)))
def qJ(H:Hp)(n:K)(k:MT)(x:V):fY:=
 match k,x with
 | .toInt k,.i _ m=>some (.i k (wr k m),H,n)
 | .same,.s l m=>some (.s l m,H,n)
 | .BA,.s _ _=>none
 | .BA,x=>match elems H 1 x with
  | some (l,vs)=>match ofBytes vs with | some m=>some (.s l m,H,n) | none=>none
  | none=>none
 | .Hz e,.s l m=>let rs:=tU l l m;jD H n (.c rs e 0) (.su n 0 rs.length 1)
 | .AL,.i _ (.ofNat m)=>bif qU m then some (.s (oz m) (qV m),H,n) else none
 | .GQ,.np=>some (.np,H,n)
 | .GQ,.p b 0=>match H.get b with | some (.b _ _ _)=>some (.p b 0,H,n) | _=>none
 | .GR _,.np=>some (.np,H,n)
 | .GR u,.p b 0=>match H.get b with | some (.b _ _ e)=>(bif Nat.beq e u then some (.p b 0,H,n) else none) | _=>none
 | _,_=>none
def xu(ok:Bool)(v:V)(b:Bool):V:=bif ok then .u [v,.b b] else v
def simple(op:A)(T:Tr V)(H:Hp)(n:K):fY:=
 match op with
 | .mv x=>cU H n (aq T x)
 | .pick c a b=>match aq T c with
  | some (.b x)=>cU H n (aq T (bif x then a else b))
  | _=>none
 | .new e zs=>jD H n (.c zs e 0) (.p n 0)
 | .Ew e x y=>jD H n (.b x y e) (.p n 0)
 | .MU x=>match aq T x with
  | some .ns=>some (.np,H,n)
  | some (.sl b o _ c)=>bif Nat.beq c 0 then none else some (.p b o,H,n)
  | some (.su b o l _)=>bif Nat.beq l 0 then none else some (.p b o,H,n)
  | _=>none
 | .BB u p l=>match aq T p,aq T l with
  | some .np,some (.i _ (.ofNat 0))=>some (.s 0 0,H,n)
  | some (.p b o),some (.i _ (.ofNat m))=>bif Nat.beq m 0 then some (.s 0 0,H,n) else match H.get b with
   | some (.c r e fz)=>bif Nat.beq e u&&Nat.ble m 9223372036854775807 then (match cw r o m with
    | some vs=>match ofBytes vs with
     | some q=>some (.s m q,H.put (some (.c r e (bif Nat.ble fz (Nat.add o m) then Nat.add o m else fz))) b,n)
     | none=>none
    | none=>none) else none
   | _=>none
  | _,_=>none
 | .box e x=>match aq T x with
  | some v=>bif aB v.cells then jD H n (.c v.cells e 0) (.p n 0) else none
  | none=>none
 | .bld zs ps=>match qh T zs ps with | some l=>some (.a l,H,n) | none=>none
 | .bsl e zs len ps=>match qh T zs ps with | some l=>jD H n (.c l e 0) (.sl n 0 len len) | none=>none
 | .ld agg sz a=>match aq T a with | some v=>cU H n (tD H agg sz v) | none=>none
 | .st sz a x=>match aq T a,aq T x with
  | some a,some x=>oZ n (AN H sz a x)
  | _,_=>none
 | .nck x=>match aq T x with
  | some (.p b o)=>some (.p b o,H,n)
  | some (.f g a c)=>some (.f g a c,H,n)
  | some (.y l)=>some (.y l,H,n)
  | _=>none
 | .bin op k x y=>match aq T x,aq T y with
  | some x,some y=>cU H n (mq op k x y)
  | _,_=>none
 | .un op x=>match aq T x with | some v=>cU H n (HG op v) | none=>none
 | .cv k x=>match aq T x with | some v=>qJ H n k v | none=>none
 | .mif t x=>match aq T x with | some v=>some (.j9 t v,H,n) | none=>none
 | .mfn f a c=>match eZ T a,eZ T c with
  | some a,some c=>some (.f f a c,H,n)
  | _,_=>none
 | .mmap=>jD H n (.mp [] 0) (.m n)
 | .msl e _ bytes z l c=>match aq T l,aq T c with
  | some (.i _ (.ofNat l)),some (.i _ (.ofNat c))=>bif Nat.ble l c&&Nat.ble (Nat.mul c bytes) 140737488355328&&Nat.ble c 9223372036854775807 then jD H n (.c (dS z c) e 0) (.sl n 0 l c) else none
  | _,_=>none
 | .sli k x lo hi mx=>match aq T x with | some v=>cU H n (lP k T v lo hi mx) | none=>none
 | .fad off x=>match aq T x with | some (.p b o)=>some (.p b (Nat.add o off),H,n) | _=>none
 | .fld agg off sz x=>match aq T x with
  | some (.a l)=>bif agg then (match cw l off sz with | some l'=>some (.a l',H,n) | none=>none) else cU H n (nth l off)
  | _=>none
 | .iad arr z x i=>match aq T x,aq T i with
  | some x,some (.i _ (.ofNat i))=>match arr,x with
   | some m,.p b o=>bif Nat.blt i m then some (.p b (Nat.add o (Nat.mul i z)),H,n) else none
   | none,.sl b o l _=>bif Nat.blt i l then some (.p b (Nat.add o (Nat.mul i z)),H,n) else none
   | none,.su b o l _=>bif Nat.blt i l then some (.p b (Nat.add o (Nat.mul i z)),H,n) else none
   | _,_=>none
  | _,_=>none
 | .idx arr x i=>match aq T x,aq T i with
  | some x,some (.i _ (.ofNat i))=>match arr,x with
   | none,.s l m=>bif Nat.blt i l then some (.i .u8 (Int.ofNat (GW m i)),H,n) else none
   | some (m,z,agg),.a l=>bif Nat.blt i m then
    (bif agg then (match cw l (Nat.mul i z) z with | some l'=>some (.a l',H,n) | none=>none) else cU H n (nth l (Nat.mul i z))) else none
   | _,_=>none
  | _,_=>none
 | .lkp q z ok m k=>match aq T m,aq T k with
  | some .nm,some k=>bif oY q k then some (xu ok z false,H,n) else none
  | some (.m b),some k=>bif oY q k then (match H.get b with
   | some (.mp es _)=>match vS q k es with
    | some (some v)=>some (xu ok v true,H,n)
    | some none=>some (xu ok z false,H,n)
    | none=>none
   | _=>none) else none
  | _,_=>none
 | .GS q m k v=>match aq T m,aq T k,aq T v with
  | some (.m b),some k,some v=>bif oY q k then (match H.get b with
   | some (.mp es c)=>match xr q k v c es with | some (j,new)=>some (.u [],H.put (some (.mp j (bif new then Nat.succ c else c))) b,n) | none=>none
   | _=>none) else none
  | _,_,_=>none
 | .DC OU x=>match OU,aq T x with
  | false,some (.s l m)=>jD H n (.it l m 0) (.p n 0)
  | true,some (.m b)=>match H.get b with
   | some (.mp _ c)=>jD H n (.mi b c) (.p n 0)
   | _=>none
  | _,_=>none
 | .HA str x=>match str,aq T x with
  | true,some (.p b 0)=>match H.get b with
   | some (.it l m pos)=>bif Nat.blt pos l then
    (let r:=rune (Nat.sub l pos) (Nat.div m (Nat.pow 256 pos))
     some (.u [.b true,.i .i64 (Int.ofNat pos),.i .i32 (Int.ofNat r.1)],H.put (some (.it l m (Nat.add pos r.2))) b,n))
    else some (.u [.b false],H,n)
   | _=>none
  | _,_=>none
 | .GU x=>match aq T x with
  | some (.p b 0)=>match H.get b with
   | some (.me m c t)=>match H.get m with
    | some (.mp es c')=>bif Nat.beq c c' then (match vT t es with | some (k,v)=>some (.u [k,v],H,n) | none=>none) else none
    | _=>none
   | _=>none
  | _=>none
 | .tas t z ok x=>match aq T x with
  | some .ni=>bif ok then some (.u [z,.b false],H,n) else none
  | some (.j9 t' v)=>bif Nat.beq t t' then some (xu ok v true,H,n) else bif ok then some (.u [z,.b false],H,n) else none
  | _=>none
 | .ext x i=>match aq T x with | some (.u l)=>cU H n (nth l i) | _=>none
 | .app e z bytes w vQ s x=>match aq T s,aq T x with
  | some s,some x=>bif vQ then (match x with | .i _ (.ofNat m)=>tT H n e z bytes s m (dS w m) | _=>none)
   else (match elems H z x with | some (m,new)=>tT H n e z bytes s m new | none=>none)
  | _,_=>none
 | .yI z d x=>match aq T d,aq T x with
  | some (.s _ _),_=>none
  | some d,some x=>match elems H z d,elems H z x with
   | some (ld,_),some (h,vs)=>
    let m:=bif Nat.ble h ld then h else ld
    bif Nat.beq m 0 then some (.i .i64 0,H,n) else
    match takeN (Nat.mul m z) vs,d with
    | some vs,.sl b o _ _=>match gq H b o vs with | some H=>some (.i .i64 (Int.ofNat m),H,n) | none=>none
    | some vs,.su b o _ _=>match gq H b o vs with | some H=>some (.i .i64 (Int.ofNat m),H,n) | none=>none
    | _,_=>none
   | _,_=>none
  | _,_=>none
 | .len k x=>match k,aq T x with
  | 0,some (.s l _)=>some (.i .i64 (Int.ofNat l),H,n)
  | 1,some .ns=>some (.i .i64 0,H,n)
  | 1,some (.sl _ _ l _)=>some (.i .i64 (Int.ofNat l),H,n)
  | 1,some (.su _ _ l _)=>some (.i .i64 (Int.ofNat l),H,n)
  | 2,some .nm=>some (.i .i64 0,H,n)
  | 2,some (.m b)=>match H.get b with | some (.mp es _)=>some (.i .i64 (Int.ofNat es.length),H,n) | _=>none
  | _,_=>none
 | .cap arr x=>match arr with
  | some m=>some (.i .i64 (Int.ofNat m),H,n)
  | none=>match aq T x with
   | some .ns=>some (.i .i64 0,H,n)
   | some (.sl _ _ _ c)=>some (.i .i64 (Int.ofNat c),H,n)
   | _=>none
 | .mm mx l=>match eZ T l with
  | some (v::vs)=>cU H n (zA (MV mx) v vs)
  | _=>none
 | .GV z x=>match aq T x with
  | some .ns=>some (.u [],H,n)
  | some .nm=>some (.u [],H,n)
  | some (.sl b o l _)=>bif Nat.beq l 0 then some (.u [],H,n) else oZ n (gq H b o (dS z l))
  | some (.su b o l _)=>bif Nat.beq l 0 then some (.u [],H,n) else oZ n (gq H b o (dS z l))
  | _=>none
 | .lO _ _=>none
 | .tR _=>none
 | .bad=>none
inductive DD where
 | code (c:AC) (T:Tr V)
 | call (f:V) (l:List V)
 deriving Inhabited
structure R where
 ex:Ex
 T:Tr V
 v:V
 H:Hp
 n:K
 deriving Inhabited
abbrev cV:=DD->Hp->K->Option R
def da(d:Option K)(v:Option V)(T:Tr V):Tr V:=
 match d with
 | some k=>T.put v k
 | none=>T
def want(g:Option (K×Bool))(T:Tr V):Option Bool:=
 match g with
 | none=>some true
 | some (k,w)=>match T.get k with
  | some (.b x)=>some (bif w then x else !x)
  | some (.u [])=>some false
  | _=>none
def dG(ih:cV)(op:A)(T:Tr V)(H:Hp)(n:K):Option R:=
 match op with
 | .lO f l=>match aq T f,eZ T l with
  | some f,some l=>ih (.call f l) H n
  | _,_=>none
 | .tR x=>match aq T x with
  | some (.j9 t v)=>some ⟨.panic (.j9 t v),.e,.q,H,n⟩
  | _=>none
 | op=>match simple op T H n with
  | some (v,H,n)=>some ⟨.normal,.e,v,H,n⟩
  | none=>none
def oper(ih:cV)(op:A)(T:Tr V)(H:Hp)(n:K):fY:=
 match dG ih op T H n with
 | some ⟨.normal,_,v,H,n⟩=>some (v,H,n)
 | _=>none
def fc(ih:cV):List AO->Tr V->Hp->K->Option R
 | [],T,H,n=>some ⟨.normal,T,.q,H,n⟩
 | o::l,T,H,n=>match want o.guard T with
  | some true=>match dG ih o.op T H n with
   | some ⟨.normal,_,v,H,n⟩=>fc ih l (da o.dst (some v) T) H n
   | some ⟨.panic v,_,_,H,n⟩=>some ⟨.panic v,T,.q,H,n⟩
   | _=>none
  | some false=>fc ih l (da o.dst (some (.u [])) T) H n
  | none=>none
inductive Cls where
 | pure | make | read | jP
def cls:A->Cls
 | .mv _ | .pick _ _ _ | .bld _ _ | .nck _ | .bin _ _ _ _ | .un _ _ | .mif _ _ | .mfn _ _ _ | .sli _ _ _ _ _ | .fad _ _ | .fld _ _ _ _
 | .iad _ _ _ _ | .idx _ _ _ | .tas _ _ _ _ | .ext _ _ | .mm _ _ | .cap _ _=>.pure
 | .new _ _ | .box _ _ | .bsl _ _ _ _ | .mmap | .msl _ _ _ _ _ _=>.make
 | .ld _ _ _ | .lkp _ _ _ _ _ | .len _ _=>.read
 | .cv (.toInt _) _ | .cv .same _ | .cv .AL _=>.pure
 | .cv .BA _=>.read
 | _=>.jP
mutual
def dK:V->V->Bool
 | .b x,.b y=>x==y
 | .i k x,.i k' y=>Nat.beq (kn k) (kn k')&&qI x y
 | .s l n,.s l' n'=>Nat.beq l l'&&Nat.beq n n'
 | .np,.np=>true
 | .p b o,.p b' o'=>b.beq b'&&Nat.beq o o'
 | .ns,.ns=>true
 | .sl b o l c,.sl b' o' l' c'=>b.beq b'&&Nat.beq o o'&&Nat.beq l l'&&Nat.beq c c'
 | .su b o l c,.su b' o' l' c'=>b.beq b'&&Nat.beq o o'&&Nat.beq l l'&&Nat.beq c c'
 | .nm,.nm=>true
 | .m b,.m b'=>b.beq b'
 | .nf,.nf=>true
 | .f g a c,.f g' a' c'=>Nat.beq g g'&&lf a a'&&lf c c'
 | .ni,.ni=>true
 | .j9 t v,.j9 t' v'=>Nat.beq t t'&&dK v v'
 | .a l,.a l'=>lf l l'
 | .u l,.u l'=>lf l l'
 | _,_=>false
def lf:List V->List V->Bool
 | [],[]=>true
 | a::l,a'::l'=>dK a a'&&lf l l'
 | _,_=>false
end
def K.cmp:Bool->K->K->Bool
 | f,.h,.h=>f
 | _,.h,_=>true
 | _,_,.h=>false
 | f,.o a,.o b=>K.cmp f a b
 | f,.i a,.i b=>K.cmp f a b
 | _,.o a,.i b=>K.cmp true a b
 | _,.i a,.o b=>K.cmp false a b
mutual
def bz (n:K):V->Bool
 | .p b _ | .sl b _ _ _ | .su b _ _ _ | .m b | .y b=>K.cmp false b n
 | .f _ a c=>gG n a&&gG n c
 | .j9 _ v=>bz n v
 | .a l | .u l=>gG n l
 | _=>true
def gG (n:K):List V->Bool
 | []=>true
 | v::l=>bz n v&&gG n l
end
abbrev Made:=List (K×Nat)
def db(H:Hp)(Δ:Nat):Made->Hp
 | []=>H
 | (k,i)::l=>bif Nat.testBit Δ i then db H Δ l else db (H.put none k) Δ l
def back(H H':Hp)(Δ:Nat):Made->Hp
 | []=>H'
 | (k,i)::l=>bif Nat.testBit Δ i then back H H' Δ l else back H (H'.put (H.get k) k) Δ l
structure Rd where
 i:Nat
 op:A
 Δ:Nat
 T:Tr V
 v:V
structure Bg where
 i:Nat
 Δ:Nat
 H:Hp
 H':Hp
def BF(r:Rd)(H:Hp)(m:Made):Bool:=
 match simple r.op r.T (db H r.Δ m) .h with
 | some (v,_,_)=>dK v r.v
 | none=>false
def zB(m:Made)(r:Rd)(b:Bg):Bool:=
 Nat.testBit r.Δ b.i||Nat.testBit b.Δ r.i||(BF r b.H m&&BF r b.H' m)
def tV(m:Made)(rs:List Rd)(bs:List Bg):Bool:=rs.all λr=>bs.all λb=>zB m r b
def eo(ih:cV):List AO->Nat->Tr V->Hp->K->Made->List Rd->List Bg->Option R
 | [],_,T,H,n,m,rs,bs=>bif tV m rs bs then some ⟨.normal,T,.q,H,n⟩ else none
 | o::l,i,T,H,n,m,rs,bs=>match want o.guard T with
  | some true=>match oper ih o.op T (db H o.Δ m) n with
   | some (v,H',n')=>
    let pd:=back H H' o.Δ m
    match cls o.op with
    | .pure=>eo ih l (Nat.succ i) (da o.dst (some v) T) H n m rs bs
    | .read=>bif bz n v then eo ih l (Nat.succ i) (da o.dst (some v) T) H n m (⟨i,o.op,o.Δ,T,v⟩::rs) bs else none
    | .make=>eo ih l (Nat.succ i) (da o.dst (some v) T) pd n' ((n,i)::m) rs bs
    | .jP=>eo ih l (Nat.succ i) (da o.dst (some v) T) pd n' m rs (⟨i,o.Δ,H,pd⟩::bs)
   | none=>none
  | some false=>eo ih l (Nat.succ i) (da o.dst (some (.u [])) T) H n m rs bs
  | none=>none
def HI:V×V×Nat->V×V×Nat->Bool
 | (a,b,c),(a',b',c')=>dK a a'&&dK b b'&&Nat.beq c c'
def GY:List (V×V×Nat)->List (V×V×Nat)->Bool
 | [],[]=>true
 | a::l,a'::l'=>HI a a'&&GY l l'
 | _,_=>false
def tW(a b:O):Bool:=
 match a with
 | .c l e fz=>(match b with | .c l' d f=>lf l l'&&Nat.beq e d&&Nat.beq fz f | _=>false)
 | .r l=>(match b with | .r l'=>lf l l' | _=>false)
 | .b x y e=>(match b with | .b g h d=>dK x g&&dK y h&&Nat.beq e d | _=>false)
 | .mp es c=>(match b with | .mp i c'=>GY es i&&Nat.beq c c' | _=>false)
 | .mi b1 c=>(match b with | .mi b' c'=>b1.beq b'&&Nat.beq c c' | _=>false)
 | .me m c t=>(match b with | .me j c' t'=>m.beq j&&Nat.beq c c'&&Nat.beq t t' | _=>false)
 | .it l n p=>(match b with | .it l' n' k=>Nat.beq l l'&&Nat.beq n n'&&Nat.beq p k | _=>false)
 | .lp _ _ _ _ _ _=>false
def fP{α:Type}(eq:α->α->Bool):Tr α->Tr α->Bool
 | .e,_=>true
 | .n v l r,.e=>(match v with | none=>true | some _=>false)&&fP eq l .e&&fP eq r .e
 | .n v l r,.n v' l' r'=>(match v,v' with | none,_=>true | some a,some a'=>eq a a' | _,_=>false)&&fP eq l l'&&fP eq r r'
def erase(T:Tr V):List K->Tr V
 | []=>T
 | k::l=>erase (T.put none k) l
def jl(bp:Nat):Nat->List (V×V×Nat)->Bool
 | _,[]=>true
 | lo,(_,_,t)::es=>Nat.ble lo t&&Nat.blt t bp&&jl bp (Nat.succ t) es
def m7(T:Tr V)(x:ao)(b:K):Bool:=
 match aq T x with
 | some (.p b' 0)=>K.beq b b'
 | _=>false
def meet:Tr V->Tr V->Tr V
 | .n v l r,.n v' l' r'=>.n (match v,v' with | some a,some b=>bif dK a b then some a else none | _,_=>none) (meet l l') (meet r r')
 | _,_=>.e
def AP:A->Bool
 | .mv _ | .pick _ _ _ | .bin _ _ _ _ | .un _ _ | .ext _ _ | .GU _ | .len _ _ | .lkp _ _ _ _ _=>true
 | _=>false
def quiet:AC->Bool
 | .skip | .exit _ | .ret=>true
 | .reg l=>l.all λo=>AP o.op
 | .seq a b | .cond _ a b=>quiet a&&quiet b
 | .block _ c=>quiet c
 | _=>false
def lh(a:Bool)(go:V×V×Nat->Option R)(T:Tr V)(H:Hp)(n:K):List (V×V×Nat)->Option (Option (Tr V))
 | []=>some none
 | e::es=>match go e with
  | some ⟨.normal,T',_,H',_⟩=>bif a||fP dK T T'&&fP tW H H' then lh a go T H n es else none
  | some ⟨.ret,T',_,H',n'⟩=>bif a||fP tW H H'&&K.beq n n' then (match lh a go T H n es with
   | some none=>some (some T')
   | some (some T0)=>some (some (meet T' T0))
   | none=>none) else none
  | _=>none
def binds:List K->List V->Tr V->Option (Tr V)
 | _,[],T=>some T
 | k::ks,v::vs,T=>binds ks vs (T.put (some v) k)
 | [],_::_,_=>none
def result(T:Tr V)(H:Hp):AR->Option V
 | .t k=>T.get k
 | .cell k agg sz=>match T.get k with
  | some a=>tD H agg sz a
  | none=>none
def vU(T:Tr V)(H:Hp):List AR->Option (List V)
 | []=>some []
 | r::l=>match result T H r,vU T H l with
  | some v,some vs=>some (v::vs)
  | _,_=>none
def qi(l:List AR)(T:Tr V)(H:Hp):Option V:=
 match vU T H l with
 | some [v]=>some v
 | some vs=>some (.u vs)
 | none=>none
def Ex.iY:Ex->Bool
 | .normal=>true
 | _=>false
def Ex.HJ:Ex->V
 | .panic v=>v
 | _=>.ni
def Ex.qj:Ex->Bool
 | .panic _=>true
 | _=>false
def zC(c:Nat):Nat->Nat->Nat->Option Nat
 | 0,_,_=>none
 | l+1,n,i=>bif Nat.beq (Nat.mod n 256) c then some i else zC c l (Nat.div n 256) (Nat.succ i)
def HK:Option Nat->V
 | some i=>.i .i64 (Int.ofNat i)
 | none=>.i .i64 (Int.negSucc 0)
def BG(l:List V)(H:Hp)(n:K):fY:=
 match l with
 | [.s l m,.i .u8 (.ofNat c)]=>bif Nat.blt c 256 then some (HK (zC c l m 0),H,n) else none
 | _=>none
def HL(l:List V)(H:Hp)(n:K):fY:=
 match l with
 | [v]=>some (v,H,n)
 | _=>none
def TE.fits(e:TE)(l:List V)(H:Hp)(n:K):Bool:=K.beq e.n n&&lf e.args l&&K.cmp true n e.n'&&fP tW e.bQ H
def Ez:List TE->List V->Hp->K->fY
 | [],_,_,_=>none
 | e::es,l,H,n=>bif e.fits l H n then some (e.v,e.add,e.n') else Ez es l H n
def pm(p:Pm)(l:List V)(H:Hp)(n:K):fY:=
 match p with
 | .tS=>BG l H n
 | .same=>HL l H n
 | .jw es=>Ez es l H n
 | .BC bQ v=>match l with
  | []=>bif fP tW bQ H then some (v,H,n) else none
  | _=>none
def aS(C:Nat->Option aE)(ih:cV)(j:DD)(H:Hp)(n:K):Option R:=
 match j with
 | .code c T=>match c with
  | .skip=>some ⟨.normal,T,.q,H,n⟩
  | .reg l=>fc ih l T H n
  | .regd l=>eo ih l 0 T H n [] [] []
  | .seq a b=>match ih (.code a T) H n with
   | some ⟨.normal,T,_,H,n⟩=>ih (.code b T) H n
   | r=>r
  | .cond c a b=>match aq T c with
   | some (.b x)=>ih (.code (bif x then a else b) T) H n
   | _=>none
  | .block id c=>match ih (.code c T) H n with
   | some ⟨.exit h,T,v,H,n⟩=>bif Nat.beq id h then some ⟨.normal,T,v,H,n⟩ else some ⟨.exit h,T,v,H,n⟩
   | r=>r
  | .loop c=>match ih (.code c T) H n with
   | some ⟨.normal,T,_,H,n⟩=>ih (.code (.loop c) T) H n
   | r=>r
  | .oX f ps bZ body=>match aq T f with
   | some f=>match ih (.call f [.y n]) (H.put (some (.lp true .normal T ps bZ body)) n) n.succ with
    | some ⟨.normal,_,_,H',n'⟩=>match H'.get n with
     | some (.lp true gn _ _ _ _)=>bif gn.qj then none else some ⟨gn,T,.q,H'.put none n,n'⟩
     | some (.lp false gn _ _ _ _)=>bif gn.qj||gn.iY then none else some ⟨gn,T,.q,H'.put none n,n'⟩
     | _=>none
    | _=>none
   | none=>none
  | .jC d x l c ws=>match aq T x with
   | some (.p b 0)=>match H.get b with
    | some (.mi m since)=>match H.get m with
     | some (.mp es bp)=>bif Nat.beq since bp&&jl bp 0 es then
      let round (T:Tr V) (H:Hp) (n:K) (e:V×V×Nat):Option R:=match fc ih l (da d (some (.u [.b true,e.1,e.2.1])) T) (H.put (some (.me m bp e.2.2)) b) n with
       | some ⟨.normal,T,_,H,n⟩=>ih (.code c T) H n
       | _=>none
      let over (T:Tr V) (H:Hp) (n:K):Option R:=match fc ih l (da d (some (.u [.b false])) T) H n with
       | some ⟨.normal,T,_,H,n⟩=>(match ih (.code c T) H n with
        | some ⟨.normal,_,_,_,_⟩=>none
        | r=>r)
       | _=>none
      match es with
      | [e]=>match round T (H.put none b) n e with
       | some ⟨.normal,T,_,H,n⟩=>(match H.get b,H.get m with
        | some (.me _ _ _),some (.mp [(_,_,t)] bp)=>bif Nat.beq since bp&&Nat.beq t e.2.2&&m7 T x b then over T (H.put none b) n else none
        | _,_=>none)
       | r=>r
      | es=>
       let T:=erase T ws;let H:=H.put none b
       bif m7 T x b then (match lh ((l.all λo=>AP o.op)&&quiet c) (round T H n) T H n es with
        | some none=>over T H n
        | some (some T)=>some ⟨.ret,T,.q,H,n⟩
        | none=>none) else none
      else none
     | _=>none
    | _=>none
   | _=>none
  | .exit id=>some ⟨.exit id,T,.q,H,n⟩
  | .scope c=>ih (.code c T) H n
  | .ret=>some ⟨.ret,T,.q,H,n⟩
  | .bad=>none
 | .call f l=>match f with
  | .f g a c=>match C g with
   | some (.pm p)=>match pm p (a++(l++c)) H n with
    | some (v,H,n)=>some ⟨.normal,.e,v,H,n⟩
    | none=>none
   | some (.go af)=>match binds af.jj (a++(l++c)) .e with
    | some T=>match ih (.code af.body T) H n with
     | some ⟨.exit _,_,_,_,_⟩=>none
     | some ⟨.panic v,_,_,H,n⟩=>some ⟨.panic v,.e,.q,H,n⟩
     | some ⟨_,T,_,H,n⟩=>match qi af.res T H with
      | some v=>some ⟨.normal,.e,v,H,n⟩
      | none=>none
     | none=>none
    | none=>none
   | some (.xq af)=>match binds af.jj (a++(l++c)) .e with
    | some T=>match fc ih af.pre T H n with
     | some ⟨.normal,T,_,H,n⟩=>match eZ T af.gM with
      | some gM=>match ih (.code af.body (T.put (some (.f af.g [] gM)) af.HB)) H n with
       | some ⟨.exit _,_,_,_,_⟩=>none
       | some ⟨ex,T,_,H,n⟩=>match binds af.HC gM .e with
        | some Tc=>match ih (.code af.HE (Tc.put (some ex.HJ) af.HD)) H n with
         | some ⟨.exit _,_,_,_,_⟩=>none
         | some ⟨.panic _,_,_,_,_⟩=>none
         | some ⟨_,_,_,H,n⟩=>match qi af.res T H with
          | some v=>some ⟨.normal,.e,v,H,n⟩
          | none=>none
         | none=>none
        | none=>none
       | none=>none
      | none=>none
     | _=>none
    | none=>none
   | none=>none
  | .y k=>match H.get k with
   | some (.lp true .normal T ps bZ body)=>match binds ps l T with
    | some T'=>bif Nat.beq ps.length l.length then
     (match ih (.code bZ T') H n with
     | some ⟨.normal,T',_,H,n⟩=>match H.get k with
      | some (.lp true .normal T ps bZ i)=>match ih (.code body T') (H.put (some (.lp false .normal T ps bZ i)) k) n with
       | some r=>match r.H.get k with
        | some (.lp false .normal T ps bZ body)=>bif r.ex.qj then none else some ⟨.normal,.e,.b r.ex.iY,r.H.put (some (.lp r.ex.iY r.ex T ps bZ body)) k,r.n⟩
        | _=>none
       | none=>none
      | _=>none
     | _=>none) else none
    | none=>none
   | _=>none
  | _=>none
def ev(C:Nat->Option aE):Nat->cV
 | 0=>λ_ _ _=>none
 | f+1=>aS C (ev C f)
def K.BH:Nat->Nat->K
 | 0,_=>.h
 | f+1,n=>bif Nat.ble n 1 then .h else bif Nat.beq (Nat.mod n 2) 0 then .o (K.BH f (Nat.div n 2)) else .i (K.BH f (Nat.div n 2))
def bF(t:Nat):K:=K.BH (Nat.succ t) (Nat.succ t)
inductive TD where
 | bool | int (k:IntKind) | str | ptr (e:Nat) | slice (e:Nat) | arr (n e:Nat) | map (k e:Nat)
 | jU (fs:List (Nat×Nat)) (plain:Bool)
 | func | iface | zE | other
 deriving Inhabited
structure TI where
 desc:TD
 size:Nat
 bytes:Nat
 zero:List V
 deriving Inhabited
structure Ty where
 i:Nat->Option TI
 g:Nat
 b:Nat
instance:CoeFun Ty (λ_=>Nat->Option TI):=⟨Ty.i⟩
def TD.agg:TD->Bool
 | .jU _ _ | .arr _ _=>true
 | _=>false
def TI.zeroV(i:TI):V:=bif i.desc.agg then .a i.zero else i.zero.headD .q
def aT:List UInt8->Nat
 | []=>0
 | b::l=>b.toNat+256*aT l
mutual
def gu:Value->Option V
 | .bool b=>some (.b b)
 | .int k n=>some (.i k n)
 | .string s=>some (.s s.size (aT s.data.toList))
 | .pointer none=>some .np
 | .slice none 0 0=>some .ns
 | .map none=>some .nm
 | .func (.func f) ⟨[]⟩ ⟨[]⟩=>some (.f f [] [])
 | .nilFunc=>some .nf
 | .nilIface=>some .ni
 | .iface t v=>match gu v with | some v=>some (.j9 t v) | none=>none
 | .agg ⟨l⟩=>match vV l with | some l=>some (.a l) | none=>none
 | .tuple ⟨l⟩=>match vV l with | some l=>some (.u l) | none=>none
 | _=>none
def vV:List Value->Option (List V)
 | []=>some []
 | v::l=>match gu v,vV l with
  | some v,some l=>some (v::l)
  | _,_=>none
end
def br(ty:Ty):Operand->Option ao
 | .tmp t=>some (.t (bF t))
 | .const v=>match gu v with | some v=>some (.c v) | none=>none
 | .global g=>bif Nat.blt g ty.g then some (.c (.p (bF g) 0)) else none
 | .func f=>some (.c (.f f [] []))
def oA(ty:Ty):List Operand->Option (List ao)
 | []=>some []
 | x::l=>match br ty x,oA ty l with
  | some x,some l=>some (x::l)
  | _,_=>none
def sO(ty:Ty):Option Operand->Option (Option ao)
 | none=>some none
 | some x=>match br ty x with | some x=>some (some x) | none=>none
def TD.ek:TD->Option EK
 | .bool=>some .bool
 | .int _=>some .int
 | .str=>some .str
 | .ptr _=>some .ptr
 | .slice _=>some .slice
 | .map _ _=>some .map
 | .func=>some .func
 | _=>none
def TD.key:TD->Option EK
 | .bool=>some .bool
 | .int _=>some .int
 | .str=>some .str
 | _=>none
def flat(ty:Ty):List (Nat×Nat)->Option (List (Nat×EK))
 | []=>some []
 | (t,o)::fs=>match ty t with
  | some i=>match i.desc.key,flat ty fs with
   | some q,some l=>some ((o,q)::l)
   | _,_=>none
  | none=>none
def vW:Operand->Bool
 | .const .nilIface=>true
 | _=>false
def mr(ty:Ty)(k:Nat):Option dR:=
 match ty k with
 | some i=>match i.desc with
  | .jU fs plain=>bif plain then (match flat ty fs with | some l=>some (.agg l) | none=>none) else none
  | .arr n e=>match ty e with
   | some j=>match j.desc.key with
    | some q=>some (.agg ((List.range n).map λi=>(i,q)))
    | none=>none
   | none=>none
  | d=>match d.key with | some q=>some (.one q) | none=>none
 | none=>none
def GZ(ty:Ty)(t:Nat)(x y:Operand):Option dR:=
 match ty t with
 | some i=>match i.desc with
  | .jU _ _ | .arr _ _=>mr ty t
  | .iface=>bif vW x||vW y then some (.one .iface) else none
  | .ptr e=>match ty e with
   | some j=>bif Nat.beq j.size 0 then none else some (.one .ptr)
   | none=>none
  | d=>match d.ek with | some q=>some (.one q) | none=>none
 | none=>none
def isEq:BinOp->Bool
 | .eql | .neq=>true
 | _=>false
def xw(ty:Ty)(off:Nat->Option (Nat×Nat)):List (Nat×Operand)->Option (List (Nat×Nat×ao))
 | []=>some []
 | (i,x)::l=>match off i,br ty x,xw ty off l with
  | some (o,s),some x,some l=>some ((o,s,x)::l)
  | _,_,_=>none
def EA(ty:Ty)(fs:List (Nat×Nat))(i:Nat):Option (Nat×Nat):=
 match nth fs i with
 | some (t,o)=>match ty t with | some j=>some (o,j.size) | none=>none
 | none=>none
def qW(ty:Ty)(c:Call):Option A:=
 match c.callee with
 | .value f=>match br ty f,oA ty c.args.toList with
  | some f,some l=>some (.lO f l)
  | _,_=>none
 | .invoke _ _=>none
 | .builtin b=>match b,c.args.toList,c.argTypes.toList with
  | .append,[s,x],t::u::_=>match ty t,ty u,br ty s,br ty x with
   | some i,some j,some s,some x=>match i.desc,j.desc with
    | _,.other=>none
    | .slice e,d=>match ty e with
     | some k=>some (.app e k.size k.bytes k.zero (match d with | .int _=>true | _=>false) s x)
     | none=>none
    | _,_=>none
   | _,_,_,_=>none
  | .unsafeSliceData,[x],t::_=>match ty t,br ty x with
   | some i,some x=>match i.desc with
    | .slice _=>some (.MU x)
    | _=>none
   | _,_=>none
  | .unsafeString,[p,l],t::_=>match ty t,br ty p,br ty l with
   | some i,some p,some l=>match i.desc with
    | .ptr u=>match ty u with | some ⟨.int .u8,1,_,_⟩=>some (.BB u p l) | _=>none
    | _=>none
   | _,_,_=>none
  | .copy,[d,x],t::_=>match ty t,br ty d,br ty x with
   | some i,some d,some x=>match i.desc with
    | .slice e=>match ty e with | some k=>some (.yI k.size d x) | none=>none
    | _=>none
   | _,_,_=>none
  | .len,[x],t::_=>match ty t,br ty x with
   | some i,some x=>match i.desc with
    | .arr n _=>some (.mv (.c (.i .i64 (Int.ofNat n))))
    | .ptr e=>match ty e with | some ⟨.arr n _,_,_,_⟩=>some (.mv (.c (.i .i64 (Int.ofNat n)))) | _=>none
    | .str=>some (.len 0 x)
    | .slice _=>some (.len 1 x)
    | .map _ _=>some (.len 2 x)
    | _=>none
   | _,_=>none
  | .cap,[x],t::_=>match ty t,br ty x with
   | some i,some x=>match i.desc with
    | .slice _=>some (.cap none x)
    | _=>none
   | _,_=>none
  | .max,l,_=>match oA ty l with | some l=>some (.mm true l) | none=>none
  | .min,l,_=>match oA ty l with | some l=>some (.mm false l) | none=>none
  | .clear,[x],t::_=>match ty t,br ty x with
   | some i,some x=>match i.desc with
    | .slice e=>match ty e with | some k=>some (.GV k.zero x) | none=>none
    | _=>none
   | _,_=>none
  | _,_,_=>none
def de(ty:Ty)(o:Op):Option A:=
 match o with
 | .move x | .assign x=>match br ty x with | some x=>some (.mv x) | none=>none
 | .pick c a b=>match br ty c,br ty a,br ty b with
  | some c,some a,some b=>some (.pick c a b)
  | _,_,_=>none
 | .alloc e=>match ty e with
  | some i=>bif Nat.beq e ty.b then (match i.zero with | [x,y]=>some (.Ew e x y) | _=>none) else some (.new e i.zero)
  | none=>none
 | .box e x=>match br ty x with | some x=>some (.box e x) | none=>none
 | .build t ps=>match ty t with
  | some i=>match i.desc with
   | .jU fs _=>match xw ty (EA ty fs) ps.toList with | some l=>some (.bld i.zero l) | none=>none
   | .arr _ e=>match ty e with
    | some j=>match xw ty (λk=>some (k*j.size,j.size)) ps.toList with | some l=>some (.bld i.zero l) | none=>none
    | none=>none
   | _=>none
  | none=>none
 | .buildSlice t len ps=>match ty t with
  | some i=>match i.desc with
   | .slice e=>match ty e with
    | some j=>bif Nat.ble (len*j.size) 16777216 then
     (match xw ty (λk=>some (k*j.size,j.size)) ps.toList with | some l=>some (.bsl e (dS j.zero len) len l) | none=>none) else none
    | none=>none
   | _=>none
  | none=>none
 | .load t a=>match ty t,br ty a with
  | some i,some a=>some (.ld i.desc.agg i.size a)
  | _,_=>none
 | .store t a v=>match ty t,br ty a,br ty v with
  | some i,some a,some v=>some (.st i.size a v)
  | _,_,_=>none
 | .nilCheck x=>match br ty x with | some x=>some (.nck x) | none=>none
 | .binOp op t x y _=>match br ty x,br ty y with
  | some a,some b=>bif isEq op then (match GZ ty t x y with | some k=>some (.bin op k a b) | none=>none) else some (.bin op (.one .bool) a b)
  | _,_=>none
 | .unOp op _ x=>match br ty x with | some x=>some (.un op x) | none=>none
 | .convert a b x=>match ty a,ty b,br ty x with
  | some i,some j,some x=>match i.desc,j.desc with
   | .int _,.int k=>some (.cv (.toInt k) x)
   | .str,.str=>some (.cv .same x)
   | .int _,.str=>some (.cv .AL x)
   | .ptr e,.zE=>bif Nat.beq e ty.b then some (.cv .GQ x) else none
   | .zE,.ptr e=>bif Nat.beq e ty.b then some (.cv (.GR e) x) else none
   | .slice e,.str=>match ty e with | some ⟨.int .u8,_,_,_⟩=>some (.cv .BA x) | _=>none
   | .str,.slice e=>match ty e with
    | some ⟨.int .i32,_,_,_⟩=>some (.cv (.Hz e) x)
    | _=>none
   | _,_=>none
  | _,_,_=>none
 | .makeInterface t x=>match ty t,br ty x with
  | some i,some x=>match i.desc with
   | .iface | .other=>none
   | _=>some (.mif t x)
  | _,_=>none
 | .makeFunc fn a c=>match fn with
  | .func f=>match oA ty a.toList,oA ty c.toList with
   | some a,some c=>some (.mfn f a c)
   | _,_=>none
  | _=>none
 | .makeMap t r=>match ty t with
  | some i=>match i.desc,r with
   | .map _ _,none=>some .mmap
   | .map _ _,some (.const (.int _ _))=>some .mmap
   | _,_=>none
  | none=>none
 | .makeSlice t l c=>match ty t,br ty l,br ty c with
  | some i,some l,some c=>match i.desc with
   | .slice e=>match ty e with | some j=>some (.msl e j.size j.bytes j.zero l c) | none=>none
   | _=>none
  | _,_,_=>none
 | .slice t x lo hi mx=>match ty t,br ty x,sO ty lo,sO ty hi,sO ty mx with
  | some i,some x,some lo,some hi,some mx=>bif mx.isSome&&hi.isNone then none else match i.desc with
   | .str=>some (.sli .str x lo hi mx)
   | .slice e=>match ty e with | some j=>some (.sli (.sl j.size) x lo hi mx) | none=>none
   | .arr n e=>match ty e with | some j=>some (.sli (.arr n j.size) x lo hi mx) | none=>none
   | _=>none
  | _,_,_,_,_=>none
 | .fieldAddr s x f=>match ty s,br ty x with
  | some i,some x=>match i.desc with
   | .jU fs _=>match EA ty fs f with
    | some (o,sz)=>bif Nat.beq sz 0 then none else some (.fad o x)
    | none=>none
   | _=>none
  | _,_=>none
 | .field s x f=>match ty s,br ty x with
  | some i,some x=>match i.desc with
   | .jU fs _=>match nth fs f with
    | some (t,o)=>match ty t with | some j=>some (.fld j.desc.agg o j.size x) | none=>none
    | none=>none
   | _=>none
  | _,_=>none
 | .indexAddr t x ix=>match ty t,br ty x,br ty ix with
  | some i,some x,some ix=>match i.desc with
   | .arr n e=>match ty e with | some j=>some (.iad (some n) j.size x ix) | none=>none
   | .slice e=>match ty e with | some j=>some (.iad none j.size x ix) | none=>none
   | _=>none
  | _,_,_=>none
 | .index t x ix=>match ty t,br ty x,br ty ix with
  | some i,some x,some ix=>match i.desc with
   | .str=>some (.idx none x ix)
   | .arr n e=>match ty e with | some j=>some (.idx (some (n,j.size,j.desc.agg)) x ix) | none=>none
   | _=>none
  | _,_,_=>none
 | .lookup t m k ok=>match ty t,br ty m,br ty k with
  | some i,some m,some k=>match i.desc with
   | .map kt e=>match ty e with
    | some j=>match mr ty kt with | some q=>some (.lkp q j.zeroV ok m k) | none=>none
    | none=>none
   | _=>none
  | _,_,_=>none
 | .mapUpdate t m k v | .insert t m k v=>match ty t,br ty m,br ty k,br ty v with
  | some i,some m,some k,some v=>match i.desc with
   | .map kt _=>match mr ty kt with | some q=>some (.GS q m k v) | none=>none
   | _=>none
  | _,_,_,_=>none
 | .range t x=>match ty t,br ty x with
  | some i,some x=>match i.desc with
   | .str=>some (.DC false x)
   | .map _ _=>some (.DC true x)
   | _=>none
  | _,_=>none
 | .next x s=>match br ty x with | some x=>bif s then some (.HA s x) else none | none=>none
 | .entry x=>match br ty x with | some x=>some (.GU x) | none=>none
 | .typeAssert x _ t ok=>match ty t,br ty x with
  | some i,some x=>match i.desc with
   | .iface | .other=>none
   | _=>some (.tas t i.zeroV ok x)
  | _,_=>none
 | .extract x i=>match br ty x with | some x=>some (.ext x i) | none=>none
 | .call c=>qW ty c
 | .panic x=>match br ty x with | some x=>some (.tR x) | none=>none
 | _=>none
def vX(ops:Array Oper):Option (Nat×Bool)->Option (Option (K×Bool))
 | none=>some none
 | some (j,w)=>match (ops[j]?).bind (·.dst) with
  | some d=>some (some (bF d,w))
  | none=>none
def jm(ty:Ty)(ops:Array Oper)(o:Oper)(Δ:Nat):AO:=
 match vX ops o.guard with
 | some g=>{ dst:=o.dst.map bF,op:=(de ty o.op).getD .bad,guard:=g,Δ}
 | none=>{ dst:=none,op:=.bad,guard:=none,Δ}
def cE(ty:Ty)(ops:Array Oper):List Oper->List Nat->List AO
 | [],_=>[]
 | o::l,[]=>jm ty ops o 0::cE ty ops l []
 | o::l,a::bZ=>jm ty ops o a::cE ty ops l bZ
def A.eH:A->List ao
 | .mv x | .box _ x | .ld _ _ x | .nck x | .un _ x | .cv _ x | .mif _ x | .fad _ x | .fld _ _ _ x | .DC _ x | .HA _ x | .GU x | .tas _ _ _ x | .ext x _ | .len _ x | .cap _ x | .GV _ x | .tR x | .MU x=>[x]
 | .pick c a b=>[c,a,b]
 | .bld _ ps | .bsl _ _ _ ps=>ps.map (·.2.2)
 | .st _ a x | .bin _ _ a x | .iad _ _ a x | .idx _ a x | .lkp _ _ _ a x | .app _ _ _ _ _ a x | .yI _ a x | .msl _ _ _ _ a x | .BB _ a x=>[a,x]
 | .GS _ a b c=>[a,b,c]
 | .mfn _ a c=>a++c
 | .sli _ x lo hi mx=>x::(lo.toList++(hi.toList++mx.toList))
 | .mm _ l=>l
 | .lO f l=>f::l
 | .new _ _ | .Ew _ _ _ | .mmap | .bad=>[]
def looks:List ao->List K
 | []=>[]
 | .t k::l=>k::looks l
 | .c _::l=>looks l
def AO.looks(o:AO):List K:=(match o.guard with | some (k,_)=>[k] | none=>[])++Ev.looks o.op.eH
def jP:A->Bool
 | .lO _ _=>true
 | op=>match cls op with | .jP=>true | _=>false
def xy(i:Nat)(a b:AO):Bool:=
 Nat.testBit b.Δ i||
 (!(jP a.op&&jP b.op)&&
  (match a.dst with | some d=>!(b.looks.any (K.beq d)) | none=>true)&&
  (match b.dst with | some d=>!(a.looks.any (K.beq d)) | none=>true))
def zF(a b:AO):Bool:=
 match a.dst,b.dst with
 | some d,some e=>!(K.beq d e)
 | _,_=>true
def vY(dj:List Nat):List Edge->Nat
 | []=>0
 | e::l=>bif Region.binds .any e then Nat.lor (Nat.lor (Nat.pow 2 e.on) ((nth dj e.on).getD 0)) (vY dj l) else vY dj l
def BI(i:Nat):List Edge->Bool
 | []=>true
 | e::l=>(!(Region.binds .any e)||Nat.blt e.on i)&&BI i l
def EB(i:Nat)(a:AO):List AO->Bool
 | []=>true
 | b::l=>xy i a b&&zF a b&&EB i a l
def vZ(dj:List Nat):Nat->List Oper->List AO->Bool
 | _,[],[]=>true
 | i,o::os,a::l=>Nat.beq a.Δ (vY dj o.after.toList)&&BI i o.after.toList&&EB i a l&&vZ dj (Nat.succ i) os l
 | _,_,_=>false
def sP:List AO->List K
 | []=>[]
 | o::l=>match o.dst with | some d=>d::sP l | none=>sP l
def AC.writes:AC->List K
 | .reg l | .regd l=>sP l
 | .seq a b | .cond _ a b=>a.writes++b.writes
 | .block _ c | .loop c | .scope c=>c.writes
 | .jC d _ l c _=>(match d with | some d=>[d] | none=>[])++sP l++c.writes
 | _=>[]
def pe(ty:Ty)(c:AC):Code->AC
 | .seq (.region _ ⟨⟨d,.next x false,_,_,_,none⟩::_⟩ false) _=>match c,br ty x with
  | .seq (.reg (_::l)) c,some x=>
   let d:=d.map bF
   .jC d x l c ((match d with | some d=>[d] | none=>[])++sP l++c.writes)
  | _,_=>.bad
 | _=>.loop c
def bV(ty:Ty):Code->AC
 | .skip=>.skip
 | .region _ ops draw=>bif draw then (bif vZ (Region.before ops).toList 0 ops.toList (cE ty ops ops.toList (Region.before ops).toList) then .regd (cE ty ops ops.toList (Region.before ops).toList) else .bad) else .reg (cE ty ops ops.toList [])
 | .seq a b=>.seq (bV ty a) (bV ty b)
 | .cond c a b=>match br ty c with | some c=>.cond c (bV ty a) (bV ty b) | none=>.bad
 | .block id c=>.block id (bV ty c)
 | .loop c=>pe ty (bV ty c) c
 | .rangeFunc f ps bZ body=>match br ty f with | some f=>.oX f (ps.toList.map bF) (bV ty bZ) (bV ty body) | none=>.bad
 | .exit id=>.exit id
 | .scope c=>.scope (bV ty c)
 | .label _=>.skip
 | .ret=>.ret
 | _=>.bad
def EC(ty:Ty):ResultVar->Option AR
 | .tmp t=>some (.t (bF t))
 | .cell a t=>match ty t with | some i=>some (.cell (bF a) i.desc.agg i.size) | none=>none
def tX(ty:Ty):List ResultVar->Option (List AR)
 | []=>some []
 | r::l=>match EC ty r,tX ty l with
  | some a,some bZ=>some (a::bZ)
  | _,_=>none
def ij(N:Nat):List Oper->Bool
 | []=>true
 | o::l=>(match o.dst with | some d=>Nat.blt d N | none=>true)&&ij N l
def m9(N:Nat):List Nat->Bool
 | []=>true
 | d::l=>Nat.blt d N&&m9 N l
def within(N:Nat):Code->Bool
 | .region _ ops _=>ij N ops.toList
 | .seq a b=>within N a&&within N b
 | .cond _ a b=>within N a&&within N b
 | .block _ c=>within N c
 | .loop c=>within N c
 | .scope c=>within N c
 | .rangeFunc _ ps bZ body=>m9 N ps.toList&&within N bZ&&within N body
 | _=>true
def sQ(ty:Ty)(f:Func):Option AF:=
 match f.body,tX ty f.results.toList with
 | some c,some rs=>bif within f.ntmps c then
  some { jj:=(List.range (f.params.size+f.nfree)).map bF,res:=rs,body:=bV ty c}
  else none
 | _,_=>none
def wa(ty:Ty)(fn:Func)(b:Nat->Option Func):Option zw:=
 match fn.body,tX ty fn.results.toList with
 | some (.seq (.region _ pre false) (.seq (.region _ ⟨[⟨some s,.makeFunc (.func g) ⟨[]⟩ gM,_,_,_,none⟩,⟨none,.defer ⟨.value (.tmp s'),⟨[]⟩,_⟩,_,_,_,none⟩]⟩ false) rest)),some rs=>
  match oA ty gM.toList,b g with
  | some c,some cf=>match cf.body with
   | some (.seq (.region _ ⟨[⟨some q,.call ⟨.builtin .recover,_,_⟩,_,_,_,none⟩]⟩ false) a)=>
    bif Nat.beq s s'&&(ij fn.ntmps pre.toList&&(Nat.blt s fn.ntmps&&(within fn.ntmps rest&&(Nat.blt q cf.ntmps&&(within cf.ntmps a&&Nat.beq cf.results.size 0))))) then
     some { jj:=(List.range (fn.params.size+fn.nfree)).map bF,res:=rs,pre:=cE ty pre pre.toList [],HB:=bF s,g:=g,gM:=c,body:=bV ty rest,HC:=(List.range (cf.params.size+cf.nfree)).map bF,HD:=bF q,HE:=bV ty a}
    else none
   | _=>none
  | _,_=>none
 | _,_=>none
def K.num:K->Nat
 | .h=>1
 | .o p=>2*p.num
 | .i p=>2*p.num+1
def K.qX(k:K):0<k.num:=by
 induction k with
 | h=>simp[K.num]
 | o p ih=>simp[K.num];omega
 | i p ih=>simp[K.num]
def K.ZP{a b:K}(h:a.num=b.num):a=b:=by
 induction a generalizing b with
 | h=>
  cases b with
  | h=>rfl
  | o p=>have:=p.qX;simp only[K.num]at h;omega
  | i p=>have:=p.qX;simp only[K.num]at h;omega
 | o p ih=>
  cases b with
  | h=>have:=p.qX;simp only[K.num]at h;omega
  | o q=>simp only[K.num]at h;rw[ih (b:=q) (by omega)]
  | i q=>simp only[K.num]at h;omega
 | i p ih=>
  cases b with
  | h=>have:=p.qX;simp only[K.num]at h;omega
  | o q=>simp only[K.num]at h;omega
  | i q=>simp only[K.num]at h;rw[ih (b:=q) (by omega)]
def K.eI(k:K):k.succ.num=k.num+1:=by
 induction k with
 | h=>rfl
 | o p ih=>simp[K.succ,K.num]
 | i p ih=>simp only[K.succ,K.num,ih];omega
def K.ZQ(f n:Nat)(h:n<=f)(a:0<n):(K.BH f n).num=n:=by
 induction f generalizing n with
 | zero=>omega
 | succ f ih=>
  simp only[K.BH];by_cases h1:n<=1
  ·have:Nat.ble n 1=true:=by simpa using h1
   simp[this,K.num];omega
  ·have:Nat.ble n 1=false:=by cases hb:Nat.ble n 1 with | false=>rfl | true=>exact absurd (j4 hb) h1
   simp only[this,cond_false];by_cases h2:n % 2=0
   ·have:Nat.beq (Nat.mod n 2) 0=true:=by show Nat.beq (n % 2) 0=true;rw[h2];rfl
    simp only[this,cond_true,K.num];have:=ih (Nat.div n 2) (by show n / 2<=f;omega) (by show 0<n / 2;omega);rw[this];show 2*(n / 2)=n;omega
   ·have:Nat.beq (Nat.mod n 2) 0=false:=by
     show Nat.beq (n % 2) 0=false;have:n % 2=1:=by omega
     rw[this];rfl
    simp only[this,cond_false,K.num];have:=ih (Nat.div n 2) (by show n / 2<=f;omega) (by show 0<n / 2;omega);rw[this];show 2*(n / 2)+1=n;omega
def xz(t:Nat):(bF t).num=t+1:=K.ZQ _ _ (ξ _) (Nat.succ_pos _)
def ED{a b:Nat}(h:bF a=bF b):a=b:=by have:=congrArg K.num h;rw[xz,xz]at this;omega
def K.beq_eq{a b:K}(h:K.beq a b=true):a=b:=by
 induction a generalizing b with
 | h=>cases b<;>simp_all [K.beq]
 | o p ih=>cases b<;>simp_all [K.beq];exact ih h
 | i p ih=>cases b<;>simp_all [K.beq];exact ih h
instance:DecidableEq K:=λa b=>if h:K.num a=K.num b then isTrue (K.ZP h) else isFalse λe=>h (by rw[e])
def K.beq_refl(a:K):K.beq a a=true:=by
 induction a with
 | h=>rfl
 | o p ih=>exact ih
 | i p ih=>exact ih
def Tr.gV{α:Type}(k:K):(Tr.e:Tr α).get k=none:=by cases k<;>rfl
def Tr.ZR{α:Type}(v:Option α)(k k':K):(Tr.xp v k).get k'=if k'=k then v else none:=by
 induction k generalizing k' with
 | h=>cases k'<;>simp[Tr.xp,Tr.get,Tr.gV]
 | o p ih=>cases k'<;>simp[Tr.xp,Tr.get,Tr.gV,ih]
 | i p ih=>cases k'<;>simp[Tr.xp,Tr.get,Tr.gV,ih]
def Tr.fk{α:Type}(v:Option α)(t:Tr α)(k k':K):(Tr.put v t k).get k'=if k'=k then v else t.get k':=by
 induction t generalizing k k' with
 | e=>simp[Tr.put,Tr.ZR,Tr.gV]
 | n w l r a b=>
  cases k<;>cases k'<;>simp[Tr.put,Tr.get,a,b]
def Tr.xA{α:Type}(v:Option α)(t:Tr α)(k:K):(Tr.put v t k).get k=v:=by simp[Tr.fk]
def Tr.tY{α:Type}(v:Option α)(t:Tr α){k k':K}(h:k'≠k):(Tr.put v t k).get k'=t.get k':=by simp[Tr.fk,h]
def oB{α:Type}(l:List α)(n:Nat):nth l n=l[n]?:=by
 induction l generalizing n with
 | nil=>simp[nth]
 | cons a l ih=>cases n with
  | zero=>simp[nth]
  | succ n=>simp[nth,ih]
def EE{α:Type}{n:Nat}{l r:List α}(h:takeN n l=some r):r=l.take n/\n<=l.length:=by
 induction n generalizing l r with
 | zero=>simp[takeN]at h;simp[h]
 | succ n ih=>
  cases l with
  | nil=>simp[takeN]at h
  | cons a l=>
   simp only[takeN]at h;split at h
   ·rename_i l' hl;obtain⟨rfl,b⟩:=ih hl;injection h with h;subst h;exact⟨by simp,by simp;omega⟩
   ·cases h
def HM{α:Type}{n:Nat}{l r:List α}(h:mn n l=some r):r=l.drop n/\n<=l.length:=by
 induction n generalizing l r with
 | zero=>simp[mn]at h;simp[h]
 | succ n ih=>
  cases l with
  | nil=>simp[mn]at h
  | cons a l=>
   simp only[mn]at h;obtain⟨rfl,b⟩:=ih h;exact⟨by simp,by simp;omega⟩
def nj{α:Type}{l r:List α}{o n:Nat}(h:cw l o n=some r):r=(l.drop o).take n/\o+n<=l.length:=by
 unfold cw at h;split at h
 ·rename_i l' hl;obtain⟨rfl,h1⟩:=HM hl;obtain⟨rfl,h2⟩:=EE h;rw[sM]at h2;exact⟨rfl,by omega⟩
 ·cases h
def ZS{α:Type}{vs l r:List α}(h:over vs l=some r):r.length=l.length/\vs.length<=l.length/\∀i,r[i]?=if i<vs.length then vs[i]? else l[i]?:=by
 induction vs generalizing l r with
 | nil=>simp[over]at h;simp[h]
 | cons v vs ih=>
  cases l with
  | nil=>simp[over]at h
  | cons a l=>
   simp only[over]at h;split at h
   ·rename_i l' hl;injection h with h;subst h;obtain⟨h1,h2,b⟩:=ih hl;refine⟨by simp[h1],by simp[h2],λi=>?_⟩;cases i with
    | zero=>simp
    | succ i=>simp[b i]
   ·cases h
def HN{α:Type}{vs l r:List α}{o:Nat}(h:cJ vs l o=some r):
 r.length=l.length/\o+vs.length<=l.length/\∀i,r[i]?=if o<=i/\i<o+vs.length then vs[i - o]? else l[i]?:=by
 induction o generalizing l r with
 | zero=>
  have h':over vs l=some r:=by cases l<;>simpa[cJ]using h
  obtain⟨h1,h2,b⟩:=ZS h';refine⟨h1,by omega,λi=>?_⟩;rw[b i];simp
 | succ o ih=>
  cases l with
  | nil=>simp[cJ]at h
  | cons a l=>
   simp only[cJ]at h;split at h
   ·rename_i l' hl;injection h with h;subst h;obtain⟨h1,h2,b⟩:=ih hl;refine⟨by simp[h1],by simp;omega,λi=>?_⟩;cases i with
    | zero=>simp
    | succ i=>
     simp only[qa,b i];by_cases hi:o<=i/\i<o+vs.length
     ·rw[ab hi,ab (by omega)];congr 1;omega
     ·rw[Γ hi,Γ (by omega)]
   ·cases h
def bD:Nat->Nat->List UInt8
 | 0,_=>[]
 | l+1,n=>UInt8.ofNat (n % 256)::bD l (n / 256)
def strOf(l n:Nat):ByteArray:=⟨(bD l n).toArray⟩
def ql(l n:Nat):(bD l n).length=l:=by
 induction l generalizing n with
 | zero=>rfl
 | succ l ih=>simp[bD,ih]
def sT(l n:Nat):(strOf l n).size=l:=by show(bD l n).toArray.size=l;simp[ql]
def OV(l n i:Nat)(h:i<l):(bD l n)[i]?=some (UInt8.ofNat (n / 256 ^ i % 256)):=by
 induction l generalizing n i with
 | zero=>omega
 | succ l ih=>
  cases i with
  | zero=>simp[bD]
  | succ i=>
   simp only[bD,qa];rw[ih (n / 256) i (by omega),Bw,iM,eR]
def ZT(l n l' n':Nat)(h:n<256 ^ l):bD l n++bD l' n'=bD (l+l') (n+n'*256 ^ l):=by
 induction l generalizing n with
 | zero=>
  have:n=0:=by simpa using h
  simp[bD,this]
 | succ l ih=>
  rw[Nat.succ_add];simp only[bD,j8];have hp:256 ^ (l+1)=256 ^ l*256:=iM ..;have a:(n+n'*256 ^ (l+1)) % 256=n % 256:=by rw[hp,←jT,Nat.add_mul_mod_self_right]
  have b:(n+n'*256 ^ (l+1)) / 256=n / 256+n'*256 ^ l:=by rw[hp,←jT,Nat.add_mul_div_right _ _ (by omega)]
  rw[a,b,ih (n / 256) (by rw[hp]at h;omega)]
def ZU{l n n':Nat}(h:n<256 ^ l)(h':n'<256 ^ l)(e:bD l n=bD l n'):n=n':=by
 induction l generalizing n n' with
 | zero=>simp at h h';omega
 | succ l ih=>
  simp only[bD,List.cons.injEq]at e;have hp:256 ^ (l+1)=256 ^ l*256:=iM ..;have a:n % 256=n' % 256:=by have:=congrArg UInt8.toNat e.1;simpa using this
  have b:=ih (by rw[hp]at h;omega) (by rw[hp]at h';omega) e.2;omega
def ZV(l n a:Nat)(h:a<=l):(bD l n).drop a=bD (l - a) (n / 256 ^ a):=by
 induction a generalizing l n with
 | zero=>simp
 | succ a ih=>
  cases l with
  | zero=>omega
  | succ l=>
   simp only[bD,zu];rw[ih l (n / 256) (by omega),Bw,iM,eR,Nat.succ_sub_succ]
def ZW(l n a:Nat)(h:a<=l):(bD l n).take a=bD a (n % 256 ^ a):=by
 induction a generalizing l n with
 | zero=>simp[bD]
 | succ a ih=>
  cases l with
  | zero=>omega
  | succ l=>
   have hp:256 ^ (a+1)=256*256 ^ a:=by rw[iM,eR]
   simp only[bD,j7];rw[ih l (n / 256) (by omega),hp,Nat.mod_mul_right_mod,Nat.mod_mul_right_div_self]
def ZX(l:List UInt8):aT l<256 ^ l.length:=by
 induction l with
 | nil=>simp[aT]
 | cons b l ih=>
  have:=b.toNat_lt;simp only[aT,eh,iM];omega
def HO(l:List UInt8):bD l.length (aT l)=l:=by
 induction l with
 | nil=>rfl
 | cons b l ih=>
  have:=b.toNat_lt;simp only[eh,bD,aT];have a:(b.toNat+256*aT l) % 256=b.toNat:=by omega
  have c:(b.toNat+256*aT l) / 256=aT l:=by omega
  rw[a,c,ih];simp
def OW(s:ByteArray):strOf s.size (aT s.data.toList)=s:=by have:=HO s.data.toList;rw[zj]at this;show(⟨(bD s.data.size (aT s.data.toList)).toArray⟩:ByteArray)=s;rw[this]
section
def _root_.Go.Value.qY:Value->Bool
 | .agg _ | .tuple _=>false
 | _=>true
def aN{α:Type}(P:Program)(s:Sem α)(w:World)(Φ:α->World->Prop):Prop:=∃a w',s.run P w=.ok a w'/\Φ a w'
section ZY
variable {α β:Type}{P:Program}{w:World}
def aN.mono{s:Sem α}{Φ Ψ:α->World->Prop}(h:aN P s w Φ)(k:∀a w',Φ a w'->Ψ a w'):aN P s w Ψ:=
 let⟨a,w',h1,h2⟩:=h;⟨a,w',h1,k _ _ h2⟩
def Ω{a:α}{Φ:α->World->Prop}(h:Φ a w):aN P (pure a:Sem α) w Φ:=⟨a,w,rfl,h⟩
def ψ{x:Sem α}{f:α->Sem β}{Φ:β->World->Prop}(h:aN P x w λa w'=>aN P (f a) w' Φ):aN P (x >>=f) w Φ:=by obtain⟨a,w',h1,b,vj,h2,c⟩:=h;exact⟨b,vj,by show(Sem.bind x f).run P w=_;rw[Sem.run_bind',h1];exact h2,c⟩
def BK{Φ:Program->World->Prop}(h:Φ P w):aN P program w Φ:=⟨P,w,rfl,h⟩
def OX{q:Question}{Φ:Nat->World->Prop}(h:∀t d,d=w.drawn\/d=w.drawn+1->Φ (q.cut t) { w with drawn:=d})(h0:q.forced=true->Φ 0 w):aN P (choose q) w Φ:=by
 by_cases a:q.forced=true
 ·exact⟨0,w,by simp[choose,Sem.run,a],h0 a⟩
 ·exact⟨q.cut (w.tape w.drawn q),_,by simp[choose,Sem.run,a],h _ _ (.inr U)⟩
def HP{a:Addr}{m:Mode}{v:Value}{Φ:Value->World->Prop}(b:w.cell? a=some v)(h:Φ v w):aN P (load a m) w Φ:=
 ⟨v,w,by simp[load,Sem.run,b],h⟩
def ZZ{a:Addr}{m:Mode}{v v0:Value}{Φ:Unit->World->Prop}(h1:v.qY=true)(b:w.cell? a=some v0)(hf:w.frozen? a=false)
 (h:Φ () (w.setCell a v)):aN P (store a v m) w Φ:=by
 refine⟨(),_,?_,h⟩;cases v<;>simp_all [store,Sem.run,Value.qY]
def tZ{o:Obj}{Φ:Nat->World->Prop}(h:Φ w.heap.size { w with heap:=w.heap.push o}):aN P (newObj o) w Φ:=⟨_,_,rfl,h⟩
def xB{r:Nat}{o:Obj}{Φ:Obj->World->Prop}(a:w.heap[r]?=some o)(b:∀c e f,o≠.cells c e f)(h:Φ o w):aN P (getObj r) w Φ:=by refine⟨o,w,?_,h⟩;simp only[getObj,Sem.run,a]
def HQ{r:Nat}{o o':Obj}{Φ:Unit->World->Prop}(a:w.heap[r]?=some o)(b:∀c e f,o≠.cells c e f)
 (h:Φ () { w with heap:=w.heap.setIfInBounds r o'}):aN P (setObj r o') w Φ:=by
 refine⟨(),_,?_,h⟩;simp only[setObj,Sem.run,a]
end ZY
def HR(P:Program)(t:TypeId)(d:TD):Prop:=
 match d with
 | .bool=>P.underlying t=some .bool
 | .int k=>P.underlying t=some (.int k)
 | .str=>P.underlying t=some .string
 | .ptr e=>P.underlying t=some (.pointer e)
 | .slice e=>P.underlying t=some (.slice e)
 | .arr n e=>P.underlying t=some (.array n e)
 | .map k e=>P.underlying t=some (.map k e)
 | .jU fs plain=>∃l,P.underlying t=some (.struct l)/\fs=l.toList.map (λf=>(f.type,f.offset))/\(∀f∈l.toList,∃ti,P.info? f.type=some ti)/\(plain=true->(∀f∈l,f.name ≠ "_")/\P.stoodInHeld t=false/\P.eqGuardType P.depth t=false)
 | .func=>∃a b c,P.underlying t=some (.func a b c)
 | .iface=>∃ms,P.underlying t=some (.interface ms)
 | .zE=>P.underlying t=some .unsafePointer
 | .other=>True
structure Loc where
 blk:Nat
 off:Nat
 room:Nat
abbrev Env:=K->Option Loc
mutual
inductive an (η:Env):V->Value->Prop
 | b (x):an η (.b x) (.bool x)
 | i (k n):an η (.i k n) (.int k n)
 | s (l n):n<256 ^ l->an η (.s l n) (.string (strOf l n))
 | np:an η .np (.pointer none)
 | p (b o L):η b=some L->an η (.p b o) (.pointer (some ⟨L.blk,L.off+o,none⟩))
 | ns:an η .ns (.slice none 0 0)
 | sl (b o l c L):η b=some L->an η (.sl b o l c) (.slice (some ⟨L.blk,L.off+o,none⟩) l c)
 | su (b o l e L c):η b=some L->l<=c->o+c*e<=L.room->an η (.su b o l e) (.slice (some ⟨L.blk,L.off+o,none⟩) l c)
 | se (b o e A L):η b=some L->an η (.su b o 0 e) (.slice (some A) 0 0)
 | nm:an η .nm (.map none)
 | m (b L):η b=some L->an η (.m b) (.map (some L.blk))
 | nf:an η .nf .nilFunc
 | f (g a c a' c'):aL η a a'->aL η c c'->an η (.f g a c) (.func (.func g) ⟨a'⟩ ⟨c'⟩)
 | y (l L):η l=some L->an η (.y l) (.func (.yield L.blk) #[] #[])
 | ni:an η .ni .nilIface
 | j9 (t v v'):an η v v'->an η (.j9 t v) (.iface t v')
 | a (l l'):aL η l l'->an η (.a l) (.agg ⟨l'⟩)
 | u (l l'):aL η l l'->an η (.u l) (.tuple ⟨l'⟩)
 | q (v):an η .q v
inductive aL (η:Env):List V->List Value->Prop
 | nil:aL η [] []
 | cons (v v' l l'):an η v v'->aL η l l'->aL η (v::l) (v'::l')
end
def Env.le(η η':Env):Prop:=∀k L,η k=some L->η' k=some L
def Env.le.refl(η:Env):η.le η:=λ_ _ h=>h
def Env.le.trans{a b c:Env}(h:a.le b)(h':b.le c):a.le c:=λk L e=>h' k L (h k L e)
mutual
theorem an.mono {η η':Env} (hη:η.le η'):∀{v:V} {x:Value},an η v x->an η' v x
 | _,_,.b x=>.b x
 | _,_,.i k n=>.i k n
 | _,_,.s l n h=>.s l n h
 | _,_,.np=>.np
 | _,_,.p b o L h=>.p b o L (hη _ _ h)
 | _,_,.ns=>.ns
 | _,_,.sl b o l c L h=>.sl b o l c L (hη _ _ h)
 | _,_,.su b o l e L c h h1 h2=>.su b o l e L c (hη _ _ h) h1 h2
 | _,_,.se b o e A L h=>.se b o e A L (hη _ _ h)
 | _,_,.nm=>.nm
 | _,_,.m b L h=>.m b L (hη _ _ h)
 | _,_,.nf=>.nf
 | _,_,.f g a c a' c' h h'=>.f g a c a' c' (aL.mono hη h) (aL.mono hη h')
 | _,_,.y l L h=>.y l L (hη _ _ h)
 | _,_,.ni=>.ni
 | _,_,.j9 t v v' h=>.j9 t v v' (an.mono hη h)
 | _,_,.a l l' h=>.a l l' (aL.mono hη h)
 | _,_,.u l l' h=>.u l l' (aL.mono hη h)
 | _,_,.q v=>.q v
theorem aL.mono {η η':Env} (hη:η.le η'):∀{v:List V} {x:List Value},aL η v x->aL η' v x
 | _,_,.nil=>.nil
 | _,_,.cons v v' l l' h h'=>.cons v v' l l' (an.mono hη h) (aL.mono hη h')
end
section lists
variable {η:Env}
def aL.length{l:List V}{l':List Value}(h:aL η l l'):l.length=l'.length:=by
 induction l generalizing l' with
 | nil=>cases h;rfl
 | cons v l ih=>cases h with | cons _ v' _ l' h1 h2=>simp[ih h2]
def aL.get{l:List V}{l':List Value}(h:aL η l l'){i:Nat}{v:V}(hi:l[i]?=some v):∃v',l'[i]?=some v'/\an η v v':=by
 induction l generalizing l' i with
 | nil=>simp at hi
 | cons a l ih=>
  cases h with
  | cons _ a' _ l' h1 h2=>
   cases i with
   | zero=>simp at hi;subst hi;exact⟨a',by simp,h1⟩
   | succ i=>simp at hi ⊢;exact ih h2 hi
def aL.EF{l:List V}{l':List Value}(b:l.length=l'.length)(h:∀(i:Nat) (v:V),l[i]?=some v->∃v',l'[i]?=some v'/\an η v v'):aL η l l':=by
 induction l generalizing l' with
 | nil=>cases l' with | nil=>exact .nil | cons=>simp at b
 | cons a l ih=>
  cases l' with
  | nil=>simp at b
  | cons a' l'=>
   obtain⟨v',h1,h2⟩:=h 0 a (by simp);simp at h1;subst h1;exact .cons _ _ _ _ h2 (ih (by simpa using b) λi v hi=>by have:=h (i+1) v (by simpa using hi);simpa using this)
def aL.append{l r:List V}{l' r':List Value}(h:aL η l l')(h':aL η r r'):aL η (l++r) (l'++r'):=by
 induction l generalizing l' with
 | nil=>cases h;exact h'
 | cons a l ih=>cases h with | cons _ a' _ l' h1 h2=>exact .cons _ _ _ _ h1 (ih h2)
def aL.sub{l:List V}{l':List Value}(h:aL η l l')(o n:Nat):aL η ((l.drop o).take n) ((l'.drop o).take n):=by
 refine aL.EF (by simp[h.length]) λi v hi=>?_;rw[List.getElem?_take]at hi ⊢;split at hi
 ·rename_i a;rw[ab a];rw[vP]at hi ⊢;exact h.get hi
 ·cases hi
def an.one{v:V}{x:Value}(h:an η v x)(h1:v.one=true):x.qY=true/\x.cells=#[x]/\v.cells=[v]:=by cases h<;>first | (cases h1;done) | exact⟨rfl,rfl,rfl⟩
def aL.one{l:List V}{l':List Value}(h:aL η l l')(h1:aB l=true):∀y∈l',y.qY=true:=by
 induction l generalizing l' with
 | nil=>cases h;simp
 | cons v l ih=>
  cases h with
  | cons _ v' _ l' b hb=>
   simp only[aB,aD]at h1;intro y a;rcases cD.1 a with rfl | a
   ·exact(b.one h1.1).1
   ·exact ih hb h1.2 y a
def an.cells{v:V}{x:Value}(h:an η v x)(h1:aB v.cells=true):aL η v.cells x.cells.toList/\∀y∈x.cells.toList,y.qY=true:=by
 by_cases d:v.one=true
 ·obtain⟨a,b,c⟩:=h.one d;rw[b,c];exact⟨.cons _ _ _ _ h .nil,by simpa using a⟩
 ·cases h<;>first | exact absurd rfl d | skip
  case a l l' hl=>exact⟨hl,hl.one h1⟩
  case u l l' hl=>simp[V.cells,aB,V.one]at h1
  case q=>simp[V.cells,aB,V.one]at h1
end lists
def O.mut:O->Bool
 | .c _ _ _ | .b _ _ _ | .mp _ _ | .it _ _ _ | .mi _ _ | .lp _ _ _ _ _ _=>true
 | _=>false
def dM(η:Env):List (V×V×Nat)->List MapEntry->Prop
 | [],[]=>True
 | (k,v,b)::l,e::l'=>an η k e.key/\an η v e.val/\e.born=b/\dM η l l'
 | _,_=>False
def aK(η:Env)(T:Tr V)(tmps:Array Value):Prop:=∀(t:Nat) (v:V),T.get (bF t)=some v->∃x,tmps[t]?=some x/\an η v x
def lj:Ex->Option Code
 | .normal=>none
 | .exit id=>some (.exit id)
 | .ret=>some .ret
 | .panic _=>none
def gN(W:Nat->Code->AC->Prop)(η:Env)(o:O)(L:Loc)(x:Option Obj):Prop:=
 match o with
 | .c l e fz=>∃cs fr,x=some (.cells cs e fr)/\L.off+L.room=cs.size/\l.length<=L.room/\(∀(i:Nat) (v:V),l[i]?=some v->∃y,cs[L.off+i]?=some y/\an η v y)/\(fr.2=fr.1\/fr.2<=L.off+fz)
 | .r l=>∃cs e fr,x=some (.cells cs e fr)/\∀(i:Nat) (v:V),l[i]?=some v->∃y,cs[L.off+i]?=some y/\an η v y
 | .b p q e=>L.off=0/\∃u v,x=some (.cells #[u,v] e (0,0))/\an η p u/\an η q v
 | .mp es c=>∃a,x=some (.map a c)/\dM η es a.toList
 | .it l n pos=>L.off=0/\x=some (.stringIter (strOf l n) pos)/\n<256 ^ l
 | .mi b since=>L.off=0/\∃Lb,η b=some Lb/\x=some (.mapIter (some Lb.blk) since #[] since)
 | .me m c t=>L.off=0/\∃Lm since seen,η m=some Lm/\x=some (.mapIter (some Lm.blk) since seen c)/\seen.back?=some t
 | .lp ready gn T ps bZ body=>∃r,x=some (.loop r)/\(r.state=if ready then .ready else if gn.iY then .busy else .done)/\r.pending=lj gn/\aK η T r.tmps/\ps=r.params.toList.map bF/\m9 r.tmps.size r.params.toList=true/\W r.tmps.size r.assign bZ/\W r.tmps.size r.body body
def dM.mono{η η':Env}(hη:η.le η'):∀{l:List (V×V×Nat)} {l':List MapEntry},dM η l l'->dM η' l l'
 | [],[],_=>trivial
 | (_,_,_)::_,_::_,⟨a,b,c,d⟩=>⟨a.mono hη,b.mono hη,c,dM.mono hη d⟩
def aK.mono{η η':Env}(hη:η.le η'){T:Tr V}{t:Array Value}(h:aK η T t):aK η' T t:=
 λk v hv=>let⟨x,h1,h2⟩:=h k v hv;⟨x,h1,h2.mono hη⟩
def gN.mono{W:Nat->Code->AC->Prop}{η η':Env}(hη:η.le η'){o:O}{L:Loc}{x:Option Obj}(h:gN W η o L x):gN W η' o L x:=by
 cases o with
 | c l e fz=>
  obtain⟨cs,fr,h1,h2,d,f,g⟩:=h;exact⟨cs,fr,h1,h2,d,λi v hi=>let⟨y,a,b⟩:=f i v hi;⟨y,a,b.mono hη⟩,g⟩
 | r l=>
  obtain⟨cs,e,fr,h1,f⟩:=h;exact⟨cs,e,fr,h1,λi v hi=>let⟨y,a,b⟩:=f i v hi;⟨y,a,b.mono hη⟩⟩
 | b p q e=>obtain⟨h0,u,v,h1,h2,d⟩:=h;exact⟨h0,u,v,h1,h2.mono hη,d.mono hη⟩
 | mp es c=>obtain⟨j,h1,h2⟩:=h;exact⟨j,h1,h2.mono hη⟩
 | it l n pos=>exact h
 | mi b since=>obtain⟨h0,Lb,h1,h2⟩:=h;exact⟨h0,Lb,hη _ _ h1,h2⟩
 | me m c t=>obtain⟨h0,Lm,since,seen,h1,h2,d⟩:=h;exact⟨h0,Lm,since,seen,hη _ _ h1,h2,d⟩
 | lp ready gn T ps bZ body=>obtain⟨r,h1,h2,d,f,g⟩:=h;exact⟨r,h1,h2,d,f.mono hη,g⟩
structure aU(W:Nat->Code->AC->Prop)(η:Env)(H:Hp)(n:K)(w:World):Prop where
 obj:∀k o,H.get k=some o->∃L,η k=some L/\L.blk<w.heap.size/\gN W η o L w.heap[L.blk]?
 sep:∀k k' o o' L L',k≠k'->H.get k=some o->o.mut=true->H.get k'=some o'->η k=some L->η k'=some L'->L.blk≠L'.blk
 free:∀k,n.num<=k.num->η k=none
def lQ(η:Env)(H:Hp)(m:Bool)(b:Nat):Prop:=∃k o L,H.get k=some o/\(m=true->o.mut=true)/\η k=some L/\L.blk=b
structure Kept(F:Nat->Prop)(w w':World):Prop where
 os:w'.os=w.os
 tape:w'.tape=w.tape
 output:w'.output=w.output
 size:w.heap.size<=w'.heap.size
 block:∀b,b<w.heap.size->¬ F b->w'.heap[b]?=w.heap[b]?
 loops:∀(b:Nat) (r:Go.Loop),w.heap[b]?=some (.loop r)->∃r',w'.heap[b]?=some (.loop r')
structure Trans(W:Nat->Code->AC->Prop)(η:Env)(H:Hp)(n:K)(w:World)(η':Env)(H':Hp)(n':K)(w':World):Prop where
 ext:η.le η'
 le:n.num<=n'.num
 rep:aU W η' H' n' w'
 kept:Kept (lQ η H true) w w'
 ka:∀m b,lQ η' H' m b->lQ η H m b\/w.heap.size<=b
 bC:∀k,k.num<n.num->η' k=η k
def Kept.refl(F:Nat->Prop)(w:World):Kept F w w:=⟨rfl,rfl,rfl,ξ _,λ_ _ _=>rfl,λ_ r h=>⟨r,h⟩⟩
section trans
variable {W:Nat->Code->AC->Prop}{η η' OY:Env}{H H' pd:Hp}{n n' mG:K}{w w' vj:World}
def Trans.refl(h:aU W η H n w):Trans W η H n w η H n w:=⟨.refl _,ξ _,h,.refl _ _,λ_ _ h=>.inl h,λ_ _=>rfl⟩
def Trans.trans(h:Trans W η H n w η' H' n' w')(k:Trans W η' H' n' w' OY pd mG vj):Trans W η H n w OY pd mG vj where
 ext:=h.ext.trans k.ext
 le:=eF h.le k.le
 rep:=k.rep
 kept:=
  {os:=k.kept.os.trans h.kept.os
   tape:=k.kept.tape.trans h.kept.tape
   output:=k.kept.output.trans h.kept.output
   size:=eF h.kept.size k.kept.size
   block:=λb hb a=>by
    rw[k.kept.block b (eE hb h.kept.size) λd=>?_,h.kept.block b hb a];rcases h.ka _ _ d with h1 | h1
    ·exact a h1
    ·omega
   loops:=λb r hb=>let⟨r',h1⟩:=h.kept.loops b r hb;k.kept.loops b r' h1}
 ka:=λm b hb=>by
  rcases k.ka m b hb with h1 | h1
  ·exact h.ka m b h1
  ·exact .inr (eF h.kept.size h1)
 bC:=λq c=>by rw[k.bC q (eE c h.le),h.bC q c]
def aU.drawn(h:aU W η H n w)(d:Nat):aU W η H n { w with drawn:=d}:=⟨h.obj,h.sep,h.free⟩
def Trans.drawn(h:Trans W η H n w η' H' n' w')(d:Nat):Trans W η H n w η' H' n' { w' with drawn:=d}:=
 ⟨h.ext,h.le,h.rep.drawn d,⟨h.kept.os,h.kept.tape,h.kept.output,h.kept.size,h.kept.block,h.kept.loops⟩,h.ka,h.bC⟩
def aU.less(h:aU W η H n w)(hs:∀k o,H'.get k=some o->H.get k=some o):aU W η H' n w:=
 ⟨λk o a=>h.obj k o (hs k o a),λk k' o o' L L' b a hm c=>h.sep k k' o o' L L' b (hs _ _ a) hm (hs _ _ c),h.free⟩
def aU.xC(h:aU W η H n w){k:K}{o:O}(b:H.get k=some o):k.num<n.num:=by
 rcases jA k.num n.num with h1 | h1
 ·exact h1
 ·obtain⟨L,a,_⟩:=h.obj k o b;rw[h.free k h1]at a;cases a
def Trans.new(h:aU W η H n w){o:O}{ob:Obj}{room:Nat}(p:∀η',η.le η'->gN W η' o ⟨w.heap.size,0,room⟩ (some ob)):
 ∃η',Trans W η H n w η' (H.put (some o) n) n.succ { w with heap:=w.heap.push ob}/\η' n=some ⟨w.heap.size,0,room⟩:=by
 have q:η n=none:=h.free n (ξ _);let η':Env:=λk=>if k=n then some ⟨w.heap.size,0,room⟩ else η k
 have hle:η.le η':=λk L a=>by
  show(if k=n then _ else η k)=_
  rw[Γ (λe=>by rw[e,q]at a;cases a)];exact a
 have i:η' n=some ⟨w.heap.size,0,room⟩:=ab rfl;have hold:∀k,k≠n->η' k=η k:=λk a=>Γ a;refine⟨η',⟨hle,by rw[K.eI];omega,⟨?_,?_,?_⟩,⟨rfl,rfl,rfl,by simp,λb hb _=>by simp[zk];omega,λb r hb=>⟨r,by
  have t:=(mU.1 hb).1;show(w.heap.push ob)[b]?=_;rw[zk,Γ (by omega)];exact hb⟩⟩,?_,λk a=>hold k λe=>by rw[e]at a;omega⟩,i⟩
 ·intro k o' a;rw[Tr.fk]at a;by_cases d:k=n
  ·rw[ab d]at a;injection a with a;subst a;subst d;exact⟨_,i,by simp,by simpa using p η' hle⟩
  ·rw[Γ d]at a;obtain⟨L,h1,h2,s⟩:=h.obj k o' a;refine⟨L,by rw[hold k d];exact h1,by simp;omega,?_⟩;have:(w.heap.push ob)[L.blk]?=w.heap[L.blk]?:=by rw[zk,Γ (by omega)]
   rw[this];exact s.mono hle
 ·intro k k' o1 o2 L1 L2 l a hm j c f;rw[Tr.fk]at a j;by_cases d:k=n
  ·have g:k'≠n:=λe=>l (d.trans e.symm);rw[Γ g]at j;obtain⟨L,h1,h2,_⟩:=h.obj k' o2 j;rw[hold k' g,h1]at f;injection f with f;rw[d,i]at c;injection c with c;rw[←c,←f];simp;omega
  ·rw[Γ d]at a;obtain⟨L,h1,h2,_⟩:=h.obj k o1 a;rw[hold k d,h1]at c;injection c with c;by_cases g:k'=n
   ·rw[g,i]at f;injection f with f;rw[←c,←f];simp;omega
   ·rw[Γ g]at j;rw[hold k' g]at f;rw[←c];exact h.sep k k' o1 o2 L L2 l a hm j h1 f
 ·intro k a;rw[K.eI]at a;have:k≠n:=λe=>by rw[e]at a;omega
  rw[hold k this];exact h.free k (by omega)
 ·rintro m b ⟨k,o',L,a,hm,c,hb⟩;rw[Tr.fk]at a;by_cases d:k=n
  ·rw[d,i]at c;injection c with c;right;rw[←hb,←c];exact ξ _
  ·rw[Γ d]at a;rw[hold k d]at c;exact .inl ⟨k,o',L,a,hm,c,hb⟩
def O.BL:O->Bool
 | .lp _ _ _ _ _ _=>true
 | _=>false
def Z0(h:aU W η H n w){k:K}{o o':O}{L:Loc}{ob:Obj}(f:H.get k=some o)(g:η k=some L)(i:gN W η o' L (some ob))(hl:o.BL=o'.BL)
 (b:Nat)(r:Go.Loop)(hb:w.heap[b]?=some (.loop r)):∃r',(w.heap.setIfInBounds L.blk ob)[b]?=some (.loop r'):=by
 rw[gj];by_cases e:L.blk=b
 ·obtain⟨L0,d,j,a⟩:=h.obj k o f;rw[g]at d;injection d with d;subst d;rw[ab e,ab j];rw[e,hb]at a;cases o with
  | lp _ _ _ _ _ _=>
   cases o' with
   | lp _ _ _ _ _ _=>obtain⟨r',h1,_⟩:=i;exact⟨r',h1⟩
   | _=>cases hl
  | c _ _ _=>obtain⟨_,_,h1,_⟩:=a;cases h1
  | r _=>obtain⟨_,_,_,h1,_⟩:=a;cases h1
  | mp _ _=>obtain⟨_,h1,_⟩:=a;cases h1
  | mi _ _=>obtain⟨_,_,_,h1⟩:=a;cases h1
  | me _ _ _=>obtain⟨_,_,_,_,_,h1,_⟩:=a;cases h1
  | it _ _ _=>obtain⟨_,h1,_⟩:=a;cases h1
  | b _ _ _=>obtain⟨_,_,_,h1,_⟩:=a;cases h1
 ·rw[Γ e];exact⟨r,hb⟩
def Trans.write(h:aU W η H n w){k:K}{o o':O}{L:Loc}{ob:Obj}(d:H.get k=some o)(hm:o.mut=true)(f:η k=some L)
 (r:gN W η o' L (some ob)){w':World}(t:w'={ w with heap:=w.heap.setIfInBounds L.blk ob})(hl:o.BL=o'.BL:=by rfl):
 Trans W η H n w η (H.put (some o') k) n w':=by
 subst t;obtain⟨L0,i,s,_⟩:=h.obj k o d;rw[f]at i;injection i with i;subst i;refine⟨.refl _,ξ _,⟨?_,?_,h.free⟩,⟨rfl,rfl,rfl,by simp,λb hb u=>?_,Z0 h d f r hl⟩,?_,λ_ _=>rfl⟩
 ·intro k' o1 a;rw[Tr.fk]at a;by_cases e:k'=k
  ·rw[ab e]at a;injection a with a;subst a;subst e;exact⟨L,f,by simpa using s,by simpa[gj,s]using r⟩
  ·rw[Γ e]at a;obtain⟨L1,h1,h2,v⟩:=h.obj k' o1 a;refine⟨L1,h1,by simpa using h2,?_⟩;have j:=h.sep k k' o o1 L L1 (λx=>e x.symm) d hm a f h1;rw[gj,Γ j];exact v
 ·intro k1 k2 o1 o2 L1 L2 j h1 l h2 c p;rw[Tr.fk]at h1 h2;by_cases q:k1=k
  ·have g:k2≠k:=λe=>j (q.trans e.symm);rw[Γ g]at h2;rw[q]at c;exact h.sep k k2 o o2 L1 L2 (λe=>g e.symm) d hm h2 c p
  ·rw[Γ q]at h1;by_cases g:k2=k
   ·rw[g]at p;exact h.sep k1 k o1 o L1 L2 q h1 l d c p
   ·rw[Γ g]at h2;exact h.sep k1 k2 o1 o2 L1 L2 j h1 l h2 c p
 ·rw[gj,Γ];intro e;exact u ⟨k,o,L,d,λ_=>hm,f,e⟩
 ·rintro m b ⟨k',o1,L1,a,l,c,hb⟩;rw[Tr.fk]at a;by_cases e:k'=k
  ·rw[e,f]at c;injection c with c;exact .inl ⟨k,o,L,d,λ_=>hm,f,by rw[c];exact hb⟩
  ·rw[Γ e]at a;exact .inl ⟨k',o1,L1,a,l,c,hb⟩
end trans
end
section
def lr(c:Array Value)(o:Nat):List Value->Array Value
 | []=>c
 | v::l=>lr (c.setIfInBounds o v) (o+1) l
def EG(c:Array Value)(o:Nat)(l:List Value):(lr c o l).size=c.size:=by
 induction l generalizing c o with
 | nil=>rfl
 | cons v l ih=>simp[lr,ih]
def EH(c:Array Value)(o:Nat)(l:List Value)(h:o+l.length<=c.size)(j:Nat):
 (lr c o l)[j]?=if o<=j/\j<o+l.length then l[j - o]? else c[j]?:=by
 induction l generalizing c o with
 | nil=>simp only[lr,mW];rw[Γ (by omega)]
 | cons v l ih=>
  simp only[eh]at h;simp only[lr];rw[ih _ _ (by simp;omega)];by_cases h1:o+1<=j/\j<o+1+l.length
  ·rw[ab h1,ab (by simp;omega)];have:j - o=(j - (o+1))+1:=by omega
   rw[this];simp
  ·rw[Γ h1,gj];by_cases h2:o=j
   ·subst h2;rw[ab rfl,ab (by omega),ab (by simp)];simp
   ·rw[Γ h2,Γ (by simp only[eh];omega)]
def EI{w:World}{b o:Nat}{c:Array Value}{e:TypeId}{fr:Nat×Nat}(h:w.heap[b]?=some (.cells c e fr)):
 w.cell? ⟨b,o,none⟩=c[o]?:=by simp[World.cell?,h]
def Z1{w:World}{b o:Nat}{c:Array Value}{e:TypeId}{fr:Nat×Nat}(h:w.heap[b]?=some (.cells c e fr)):
 w.frozen? ⟨b,o,none⟩=(decide (fr.1<=o)&&decide (o<fr.2)):=by
 obtain⟨lo,hi⟩:=fr;simp[World.frozen?,h]
def Z2{w:World}{b o:Nat}{c:Array Value}{e:TypeId}{fr:Nat×Nat}(h:w.heap[b]?=some (.cells c e fr))(v:Value):
 w.setCell ⟨b,o,none⟩ v={ w with heap:=w.heap.setIfInBounds b (.cells (c.setIfInBounds o v) e fr)}:=by
 have hb:b<w.heap.size:=by
  rcases jA b w.heap.size with h1 | h1
  ·exact h1
  ·rw[Array.getElem?_eq_none h1]at h;cases h
 have a:w.heap[b]=.cells c e fr:=by rw[mg hb]at h;injection h
 simp only[World.setCell];congr 1;apply Array.ext_getElem?;intro i;rw[Array.getElem?_modify,gj];by_cases hi:b=i
 ·subst hi;simp[hb,a]
 ·rw[Γ hi,Γ hi]
def re(b o n:Nat):(⟨b,o,none⟩:Addr).add n=⟨b,o+n,none⟩:=by
 unfold Addr.add;split
 ·rename_i h;simp[h]
 ·rfl
section Z3
variable {P:Program}{w:World}
def Z4{b o:Nat}{c:Array Value}{e:TypeId}{fr:Nat×Nat}(h:w.heap[b]?=some (.cells c e fr))(n i:Nat)(acc:Array Value)
 (f:o+i+n<=c.size):aN P (loadCellsFrom ⟨b,o,none⟩ i n acc) w λr w'=>r=acc++((c.toList.drop (o+i)).take n).toArray/\w'=w:=by
 induction n generalizing i acc with
 | zero=>exact Ω ⟨by simp,rfl⟩
 | succ n ih=>
  have a:o+i<c.size:=by omega
  refine ψ ?_;rw[re];refine HP (v:=c[o+i]) (by rw[EI h,mg a]) ?_;refine(ih (i+1) (acc.push c[o+i]) (by omega)).mono ?_;rintro r w' ⟨rfl,rfl⟩;refine⟨?_,rfl⟩;have d:c.toList.drop (o+i)=c[o+i]::c.toList.drop (o+i+1):=by rw[gL (by simpa using a)];simp
  rw[d,j7];apply jB;simp[mj]
def OZ{b o:Nat}{c:Array Value}{e:TypeId}{fr:Nat×Nat}(h:w.heap[b]?=some (.cells c e fr))(n:Nat)
 (a:o+n<=c.size):aN P (loadCells ⟨b,o,none⟩ n) w λr w'=>r=((c.toList.drop o).take n).toArray/\w'=w:=
 (Z4 h n 0 #[] (by omega)).mono λr w' ⟨h1,h2⟩=>⟨by simpa using h1,h2⟩
def HT{b o:Nat}{c:Array Value}{e:TypeId}{fr:Nat×Nat}(vs:List Value)(i:Nat)(h:w.heap[b]?=some (.cells c e fr))
 (d:o+i+vs.length<=c.size)(hf:fr.2<=fr.1\/fr.2<=o+i)(h1:∀v∈vs,v.qY=true):
 aN P (storeCells ⟨b,o,none⟩ vs i) w λ_ w'=>w'={ w with heap:=w.heap.setIfInBounds b (.cells (lr c (o+i) vs) e fr)}:=by
 induction vs generalizing i c w with
 | nil=>
  refine Ω ?_;have:w.heap.setIfInBounds b (.cells c e fr)=w.heap:=by
   apply Array.ext_getElem?;intro j;rw[gj];by_cases hj:b=j
   ·subst hj;rw[ab rfl];split
    ·exact h.symm
    ·rename_i a;rw[Array.getElem?_eq_none (by omega)]at h;cases h
   ·rw[Γ hj]
  simp only[lr,this]
 | cons v vs ih=>
  simp only[eh]at d;have f:o+i<c.size:=by omega
  have hb:b<w.heap.size:=by
   rcases jA b w.heap.size with h2 | h2
   ·exact h2
   ·rw[Array.getElem?_eq_none h2]at h;cases h
  refine ψ ?_;rw[re];refine ZZ (h1 v (by simp)) (v0:=c[o+i]) (by rw[EI h,mg f]) ?_ ?_
  ·rw[Z1 h];simp;omega
  ·rw[Z2 h];refine(ih (w:={ w with heap:=w.heap.setIfInBounds b (.cells (c.setIfInBounds (o+i) v) e fr)}) (c:=c.setIfInBounds (o+i) v) (i+1)
    (by simp[gj,hb]) (by simp;omega) (by omega) (λx a=>h1 x (by simp[a]))).mono ?_
   rintro _ w' rfl;simp[lr,mj]
end Z3
structure ua(P:Program)(t:TypeId)(i:TI):Prop where
 desc:HR P t i.desc
 info:∃ti z,P.info? t=some ti/\ti.size=i.size/\ti.bytes=i.bytes/\ti.zero=some z/\vV z.cells.toList=some i.zero/\(i.desc.agg=true->∃l,z=.agg l)/\(i.desc.agg=false->z.qY=true)/\i.zero.length=i.size/\aB i.zero=true
 other:i.desc=.other->∃d,P.underlying t=some d/\(∀fs,d≠.struct fs)/\(∀n e,d≠.array n e)
structure cP(P:Program)(ty:Ty):Prop where
 ok:∀t i,ty t=some i->ua P t i
 Z5:(P.info? ty.b).map (·.size)=some 2
 Z6:liesAt P P.depth ty.b (2 / P.cellsOf ty.b) 0 ty.b 1=true
section types
variable {P:Program}{w:World}
def aY{t:TypeId}{d:TypeDesc}{Φ:TypeDesc->World->Prop}(h:P.underlying t=some d)(k:Φ d w):aN P (underlying t) w Φ:=by refine ψ (BK ?_);simp only[h];exact Ω k
def wb{t:TypeId}{i:TypeInfo}{Φ:TypeInfo->World->Prop}(h:P.info? t=some i)(k:Φ i w):aN P (typeInfo t) w Φ:=by refine ψ (BK ?_);simp only[h];exact Ω k
def lu{t:TypeId}{i:TI}{Φ:Nat->World->Prop}(h:ua P t i)(k:Φ i.size w):aN P (sizeOf t) w Φ:=by obtain⟨ti,z,h1,h2,_⟩:=h.info;exact ψ (wb h1 (Ω (h2▸k)))
def O0{t:TypeId}{i:TI}{Φ:Bool->World->Prop}(h:ua P t i)(k:Φ i.desc.agg w):aN P (isAgg t) w Φ:=by
 have a:=h.desc;have b:=h.other;obtain⟨d,sz,f,g⟩:=i;cases d with
 | jU fs plain=>obtain⟨l,h1,_⟩:=a;exact ψ (aY h1 (Ω k))
 | arr n e=>exact ψ (aY a (Ω k))
 | other=>
  obtain⟨d,h1,h2,c⟩:=b rfl;refine ψ (aY h1 ?_);cases d<;>first | exact absurd rfl (h2 _) | exact absurd rfl (c _ _) | exact Ω k
 | func=>obtain⟨_,_,_,h1⟩:=a;exact ψ (aY h1 (Ω k))
 | iface=>obtain⟨_,h1⟩:=a;exact ψ (aY h1 (Ω k))
 | bool=>exact ψ (aY a (Ω k))
 | int _=>exact ψ (aY a (Ω k))
 | str=>exact ψ (aY a (Ω k))
 | ptr _=>exact ψ (aY a (Ω k))
 | zE=>exact ψ (aY a (Ω k))
 | slice _=>exact ψ (aY a (Ω k))
 | map _ _=>exact ψ (aY a (Ω k))
mutual
theorem HU (η:Env):∀{x:Value} {v:V},gu x=some v->an η v x
 | .bool b,v,h=>by simp only[gu]at h;injection h with h;subst h;exact .b _
 | .int k n,v,h=>by simp only[gu]at h;injection h with h;subst h;exact .i _ _
 | .string s,v,h=>by simp only[gu]at h;injection h with h;subst h;have h1:=ZX s.data.toList;have h2:=OW s;have:an η (.s s.size (aT s.data.toList)) (.string (strOf s.size (aT s.data.toList))):=.s _ _ (by simpa using h1);rw[h2]at this;exact this
 | .pointer none,v,h=>by simp only[gu]at h;injection h with h;subst h;exact .np
 | .slice none 0 0,v,h=>by simp only[gu]at h;injection h with h;subst h;exact .ns
 | .map none,v,h=>by simp only[gu]at h;injection h with h;subst h;exact .nm
 | .func (.func f) ⟨[]⟩ ⟨[]⟩,v,h=>by simp only[gu]at h;injection h with h;subst h;exact .f _ _ _ _ _ .nil .nil
 | .nilFunc,v,h=>by simp only[gu]at h;injection h with h;subst h;exact .nf
 | .nilIface,v,h=>by simp only[gu]at h;injection h with h;subst h;exact .ni
 | .iface t x,v,h=>by
  simp only[gu]at h;split at h
  ·rename_i v' hv;injection h with h;subst h;exact .j9 _ _ _ (HU η hv)
  ·cases h
 | .agg ⟨l⟩,v,h=>by
  simp only[gu]at h;split at h
  ·rename_i v' hv;injection h with h;subst h;exact .a _ _ (ub η hv)
  ·cases h
 | .tuple ⟨l⟩,v,h=>by
  simp only[gu]at h;split at h
  ·rename_i v' hv;injection h with h;subst h;exact .u _ _ (ub η hv)
  ·cases h
 | .float ..,_,h=>by simp[gu]at h
 | .complex ..,_,h=>by simp[gu]at h
 | .pointer (some _),_,h=>by simp[gu]at h
 | .slice (some _) _ _,_,h=>by simp[gu]at h
 | .slice none (_+1) _,_,h=>by simp[gu]at h
 | .slice none 0 (_+1),_,h=>by simp[gu]at h
 | .map (some _),_,h=>by simp[gu]at h
 | .chan _,_,h=>by simp[gu]at h
 | .func (.method _) _ _,_,h=>by simp[gu]at h
 | .func (.methodOf _ _) _ _,_,h=>by simp[gu]at h
 | .func (.via _ _ _ _) _ _,_,h=>by simp[gu]at h
 | .func (.yield _) _ _,_,h=>by simp[gu]at h
 | .func (.func _) ⟨_::_⟩ _,_,h=>by simp[gu]at h
 | .func (.func _) ⟨[]⟩ ⟨_::_⟩,_,h=>by simp[gu]at h
theorem ub (η:Env):∀{x:List Value} {v:List V},vV x=some v->aL η v x
 | [],v,h=>by simp only[vV]at h;injection h with h;subst h;exact .nil
 | x::l,v,h=>by
  simp only[vV]at h;split at h
  ·rename_i v1 l1 hv hl;injection h with h;subst h;exact .cons _ _ _ _ (HU η hv) (ub η hl)
  ·cases h
end
def rh{t:TypeId}{i:TI}{Φ:Value->World->Prop}(h:ua P t i)
 (k:∀z,(∀η,aL η i.zero z.cells.toList)->(∀η,an η i.zeroV z)->(∀y∈z.cells.toList,y.qY=true)->z.cells.size=i.size->Φ z w):aN P (zeroValue t) w Φ:=by
 obtain⟨ti,z,h1,h2,q,f,c,g,j,m,n⟩:=h.info;refine ψ (wb h1 ?_);simp only[f];refine Ω (k z (λη=>ub η c) (λη=>?_) ?_ ?_)
 ·unfold TI.zeroV;cases e:i.desc.agg with
  | true=>
   obtain⟨l,rfl⟩:=g e;obtain⟨l⟩:=l;exact .a _ _ (ub η c)
  | false=>
   have o:=j e;have p:z.cells=#[z]:=by cases z<;>first | rfl | (simp[Value.qY]at o)
   have d:=ub η c;rw[p]at d;generalize i.zero=zs at d;cases d with
   | cons v v' l l' a b=>cases b;exact a
 ·exact(ub (λ_=>none) c).one n
 ·rw[←m,(ub (λ_=>none) c).length];simp
end types
end
section
def ai(tmps:Array Value):Operand->Value
 | .tmp t=>tmps.getD t undef
 | .const v=>v
 | .global g=>.pointer (some ⟨g,0,none⟩)
 | .func f=>.func (.func f) #[] #[]
def bM(η:Env)(G:Nat):Prop:=∀g,g<G->∃L,η (bF g)=some L/\L.blk=g/\L.off=0
def bM.mono{η η':Env}{G:Nat}(h:bM η G)(hη:η.le η'):bM η' G:=λg c=>let⟨L,a,b⟩:=h g c;⟨L,hη _ _ a,b⟩
def eW(P:Program)(W:Nat->Code->AC->Prop)(η:Env)(H:Hp)(n:K)(w:World)(s:Sem Next)(v:V)(H':Hp)(n':K):Prop:=
 aN P s w λx w'=>∃η',Trans W η H n w η' H' n' w'/\((∃y,x=.value y/\an η' v y)\/(x=.skip/\v=.u []))
section ops
variable {P:Program}{ty:Ty}{W:Nat->Code->AC->Prop}{η:Env}{T:Tr V}{H H':Hp}{n n':K}{w:World}{tmps:Array Value}{v:V}
def bT(b:aK η T tmps)(d:bM η ty.g){x:Operand}{a:ao}{v:V}(h:br ty x=some a)(hv:aq T a=some v):an η v (ai tmps x):=by
 cases x with
 | tmp t=>
  simp only[br]at h;injection h with h;subst h;obtain⟨y,h1,h2⟩:=b t v hv;show an η v (tmps.getD t undef);rw[vM,h1];exact h2
 | const c=>
  simp only[br]at h;split at h
  ·rename_i v' e;injection h with h;subst h;simp only[aq]at hv;injection hv with hv;subst hv;exact HU η e
  ·cases h
 | global g=>
  simp only[br]at h;cases hb:Nat.blt g ty.g with
  | false=>rw[hb]at h;cases h
  | true=>
   rw[hb]at h;injection h with h;subst h;simp only[aq]at hv;injection hv with hv;subst hv;obtain⟨L,h1,h2,i⟩:=d g (by have:g+1<=ty.g:=j4 hb;omega);have:=an.p (η:=η) (bF g) 0 L h1;rw[h2,i]at this;exact this
 | func f=>
  simp only[br]at h;injection h with h;subst h;simp only[aq]at hv;injection hv with hv;subst hv;exact .f _ _ _ _ _ .nil .nil
def zH(b:aK η T tmps)(c:bM η ty.g){l:List Operand}{bZ:List ao}{vs:List V}(h:oA ty l=some bZ)(hv:eZ T bZ=some vs):
 aL η vs (l.map (ai tmps)):=by
 induction l generalizing bZ vs with
 | nil=>
  simp only[oA]at h;injection h with h;subst h;simp only[eZ]at hv;injection hv with hv;subst hv;exact .nil
 | cons x l ih=>
  simp only[oA]at h;split at h
  ·rename_i a i d has;injection h with h;subst h;simp only[eZ]at hv;split at hv
   ·rename_i v' j e f;injection hv with hv;subst hv;exact .cons _ _ _ _ (bT b c d e) (ih has f)
   ·cases hv
  ·cases h
def kc{x:Option V}(h:cU H n x=some (v,H',n')):x=some v/\H'=H/\n'=n:=by
 cases x with
 | none=>cases h
 | some y=>simp only[cU]at h;injection h with h;injection h with h1 h2;injection h2 with h2 a;exact⟨by rw[h1],h2.symm,a.symm⟩
def gC{s:Sem Value}(h:aN P s w λy w'=>∃η',Trans W η H n w η' H' n' w'/\an η' v y):eW P W η H n w (do pure (.value (←s))) v H' n':=
 ψ (h.mono λy _ ⟨η',a,b⟩=>Ω ⟨η',a,.inl ⟨y,rfl,b⟩⟩)
def Z7{s:Sem Unit}(h:aN P s w λ_ w'=>∃η',Trans W η H n w η' H' n' w'):eW P W η H n w (do s;pure .skip) (.u []) H' n':=
 ψ (h.mono λ_ _ ⟨η',a⟩=>Ω ⟨η',a,.inr ⟨rfl,rfl⟩⟩)
def MW{y:Value}(a:aU W η H n w)(h:an η v y):eW P W η H n w (pure (.value y)) v H n:=
 Ω ⟨η,.refl a,.inl ⟨y,rfl,h⟩⟩
def O1(f:aU W η H n w){b:K}{l:List V}(h:rowAt H b=some l):
 ∃L cs e fr,η b=some L/\w.heap[L.blk]?=some (.cells cs e fr)/\∀(i:Nat) (v:V),l[i]?=some v->∃y,cs[L.off+i]?=some y/\an η v y:=by
 unfold rowAt at h;split at h
 ·rename_i o g;obtain⟨L,h1,h2,c⟩:=f.obj b o g;cases o<;>first | (simp[O.row]at h;done) | skip
  ·simp only[O.row]at h;injection h with h;subst h;obtain⟨cs,fr,a,_,_,d,_⟩:=c;exact⟨L,cs,_,fr,h1,a,d⟩
  ·simp only[O.row]at h;injection h with h;subst h;obtain⟨cs,e,fr,a,d⟩:=c;exact⟨L,cs,e,fr,h1,a,d⟩
  ·simp only[O.row]at h;injection h with h;subst h;obtain⟨h0,u,q,a,j,k⟩:=c;refine⟨L,#[u,q],_,_,h1,a,λi v hi=>?_⟩;rw[h0,eV];rcases i with _ | _ | i
   ·simp at hi;subst hi;exact⟨u,rfl,j⟩
   ·simp at hi;subst hi;exact⟨q,rfl,k⟩
   ·simp at hi
 ·cases h
def HV(f:aU W η H n w){b:K}{l r:List V}{o z:Nat}(h:rowAt H b=some l)(g:cw l o z=some r):
 ∃L cs e fr,η b=some L/\w.heap[L.blk]?=some (.cells cs e fr)/\(z=0\/L.off+o+z<=cs.size)/\aL η r ((cs.toList.drop (L.off+o)).take z):=by
 obtain⟨L,cs,e,fr,h1,h2,d⟩:=O1 f h;obtain⟨rfl,k⟩:=nj g;have a:z=0\/L.off+o+z<=cs.size:=by
  cases z with
  | zero=>exact .inl U
  | succ z=>
   right;obtain⟨y,c,_⟩:=d (o+z) l[o+z] (by rw[aX (by omega)]);have:=(mU.1 c).1;omega
 refine⟨L,cs,e,fr,h1,h2,a,?_⟩;refine aL.EF ?_ λi v hi=>?_
 ·rw[ov,ov,sM,sM];rcases a with rfl | a
  ·simp
  ·simp;omega
 ·rw[List.getElem?_take]at hi ⊢;split at hi
  ·rename_i j;rw[ab j];rw[vP]at hi ⊢;obtain⟨y,c,hv⟩:=d _ _ hi;refine⟨y,?_,hv⟩;rw[mh];rw[show L.off+o+i=L.off+(o+i) by omega];exact c
  ·cases hi
def O2{t:TypeId}{i:TI}(hi:ua P t i)(f:aU W η H n w){a:V}{A:Addr}(k:an η a (.pointer (some A)))(h:tD H i.desc.agg i.size a=some v):
 aN P (loadVar t A) w λy w'=>an η v y/\w'=w:=by
 unfold tD at h;split at h
 ·rename_i b o;split at h
  ·rename_i l hl;cases k with
   | p b o L g=>
    refine ψ (O0 hi ?_);cases j:i.desc.agg with
    | true=>
     rw[j]at h;simp only[cond_true]at h;split at h
     ·rename_i r m;injection h with h;subst h;obtain⟨L',cs,e,fr,h1,h2,c,d⟩:=HV f hl m;rw[g]at h1;injection h1 with h1;subst h1;simp only[if_true];refine ψ (lu hi ?_);refine ψ ?_;rcases c with c | c
      ·rw[c];exact Ω (Ω ⟨by rw[c]at d;simpa using an.a _ _ d,rfl⟩)
      ·refine(OZ h2 i.size c).mono ?_;rintro r' w' ⟨rfl,rfl⟩;exact Ω ⟨.a _ _ d,rfl⟩
     ·cases h
    | false=>
     rw[j]at h;simp only[cond_false]at h;rw[oB]at h;obtain⟨L',cs,e,fr,h1,h2,c⟩:=O1 f hl;rw[g]at h1;injection h1 with h1;subst h1;obtain⟨y,q,hv⟩:=c o v h;simp only[mV,if_false];exact HP (by rw[EI h2];exact q) ⟨hv,rfl⟩
  ·cases h
 ·cases h
def Z8(aC:cP P ty)(e:aK η T tmps)(f:bM η ty.g)(d:aU W η H n w){t:TypeId}{x:Operand}{a:A}(b:de ty (.load t x)=some a)
 (hs:simple a T H n=some (v,H',n')):eW P W η H n w (do pure (.value (←Instr.loadAt t (ai tmps x)))) v H' n':=by
 simp only[de]at b;split at b
 ·rename_i i l hi h;injection b with b;subst b;simp only[simple]at hs;split at hs
  ·rename_i a j;obtain⟨h1,rfl,rfl⟩:=kc hs;have c:=bT e f h j;have hp:∃A,ai tmps x=.pointer (some A):=by
    unfold tD at h1;split at h1
    ·generalize ai tmps x=y at c;cases c;exact⟨_,rfl⟩
    ·cases h1
   obtain⟨A,k⟩:=hp;rw[k]at c ⊢;refine gC (ψ (Ω ((O2 (aC.ok _ _ hi) d c h1).mono ?_)));rintro y w' ⟨h2,rfl⟩;exact⟨η,.refl d,h2⟩
  ·cases hs
 ·cases b
def EJ(d:aU W η H n w){b:K}{o:Nat}{vs:List V}{xs:List Value}(hv:aL η vs xs)(h:gq H b o vs=some H'):
 ∃L,η b=some L/\aN P (storeCells ⟨L.blk,L.off+o,none⟩ xs) w λ_ w'=>Trans W η H n w η H' n w':=by
 unfold gq at h;split at h
 ·rename_i l e fz a;cases hb:(Nat.ble fz o&&aB vs) with
  | false=>rw[hb]at h;cases h
  | true=>
   rw[hb]at h;simp only[cond_true]at h;split at h
   ·rename_i l' hl;injection h with h;subst h;rw[aD]at hb;have M:fz<=o:=j4 hb.1;obtain⟨L,h1,h2,cs,fr,f,g,t,D,E⟩:=d.obj b _ a;obtain⟨g1,B,j⟩:=HN hl;refine⟨L,h1,?_⟩;have k:L.off+o+0+xs.length<=cs.size:=by rw[←hv.length];omega
    refine(HT xs 0 f k (by omega) (hv.one hb.2)).mono ?_;rintro _ w' rfl;refine Trans.write d a rfl h1 ?_ rfl;refine⟨_,fr,rfl,by rw[EG];exact g,by omega,λi v hi=>?_,E⟩;rw[EH _ _ _ (by omega)];rw[j]at hi;by_cases c:o<=i/\i<o+vs.length
    ·rw[ab c]at hi;rw[ab (by rw[←hv.length];omega)];have:=hv.get hi;rw[show L.off+i - (L.off+o+0)=i - o by omega];exact this
    ·rw[Γ c]at hi;rw[Γ (by rw[←hv.length];omega)];exact D i v hi
   ·cases h
 ·rename_i x y e a;cases hb:aB vs with
  | false=>rw[hb]at h;cases h
  | true=>
   rw[hb]at h;simp only[cond_true]at h;split at h
   ·rename_i m p hl;injection h with h;subst h;obtain⟨L,h1,h2,h0,u,q,f,g,t⟩:=d.obj b _ a;obtain⟨g1,B,j⟩:=HN hl;refine⟨L,h1,?_⟩;have k:L.off+o+0+xs.length<=(#[u,q]:Array Value).size:=by
     rw[←hv.length,h0];simp at B ⊢;omega
    refine(HT xs 0 f k (by simp) (hv.one hb)).mono ?_;rintro _ w' rfl;refine Trans.write (o':=.b m p e) d a rfl h1 ?_ rfl;have C:(lr #[u,q] (L.off+o+0) xs).size=2:=by rw[EG];rfl
    have get:∀(i:Nat) (v:V),[m,p][i]?=some v->∃z,(lr #[u,q] (L.off+o+0) xs)[i]?=some z/\an η v z:=by
     intro i v hi;rw[EH _ _ _ (by omega)];rw[j]at hi;by_cases c:o<=i/\i<o+vs.length
     ·rw[ab c]at hi;rw[ab (by rw[←hv.length];omega)];have:=hv.get hi;rw[show i - (L.off+o+0)=i - o by omega];exact this
     ·rw[Γ c]at hi;rw[Γ (by rw[←hv.length];omega)];rcases i with _ | _ | i
      ·simp at hi;subst hi;exact⟨u,rfl,g⟩
      ·simp at hi;subst hi;exact⟨q,rfl,t⟩
      ·simp at hi
    obtain⟨F,r,G⟩:=get 0 m rfl;obtain⟨I,s,r1⟩:=get 1 p rfl;refine⟨h0,F,I,?_,G,r1⟩;congr 2;generalize lr #[u,q] (L.off+o+0) xs=A at C r s;apply Array.ext
    ·rw[C];rfl
    ·intro i N J;rcases i with _ | _ | i
     ·rw[mg (by omega)]at r;injection r
     ·rw[mg (by omega)]at s;injection s
     ·simp at J;omega
   ·cases h
 ·cases h
def Z9(aC:cP P ty)(l:aK η T tmps)(m:bM η ty.g)(s:aU W η H n w){t:TypeId}{x y:Operand}{a:A}(c:de ty (.store t x y)=some a)
 (hs:simple a T H n=some (v,H',n')):eW P W η H n w (do Instr.storeAt t (ai tmps x) (ai tmps y);pure .skip) v H' n':=by
 simp only[de]at c;split at c
 ·rename_i i J M hi u z;injection c with c;subst c;simp only[simple]at hs;split at hs
  ·rename_i a b B hb;have q:=bT l m u B;have C:=bT l m z hb;unfold AN at hs;split at hs
   ·rename_i k o;cases c:Nat.beq b.cells.length i.size with
    | false=>rw[c]at hs;cases hs
    | true=>
     rw[c]at hs;simp only[cond_true]at hs;cases d:gq H k o b.cells with
     | none=>rw[d]at hs;cases hs
     | some H1=>
      rw[d]at hs;simp only[oZ]at hs;injection hs with hs;injection hs with D f;injection f with f E;subst D;subst f;subst E;have F:aB b.cells=true:=by
       unfold gq at d;split at d
       ·cases j:aB b.cells with
        | true=>rfl
        | false=>rw[j,Bool.and_false]at d;cases d
       ·cases j:aB b.cells with
        | true=>rfl
        | false=>rw[j]at d;cases d
       ·cases d
      obtain⟨r,N⟩:=C.cells F;obtain⟨L,G,I⟩:=EJ (P:=P) s r d;refine Z7 ?_;generalize ai tmps x=p at q;cases q with
      | p _ _ L' e=>
       rw[G]at e;injection e with e;subst e;refine ψ (Ω ?_);refine ψ (lu (aC.ok _ _ hi) ?_);have:(ai tmps y).cells.size=i.size:=by have h1:=r.length;have h2:b.cells.length=i.size:=bY c;simp at h1;omega
       simp only[this,ne_eq,not_true_eq_false,if_false];refine ψ (Ω ?_);exact I.mono λ_ w' h=>⟨η,h⟩
   ·cases hs
  ·cases hs
 ·cases c
def aaa(aC:cP P ty)(m:aU W η H n w){t:TypeId}{a:A}(d:de ty (.alloc t)=some a)(hs:simple a T H n=some (v,H',n')):
 eW P W η H n w (do pure (.value (←Instr.alloc t true (.tuple #[])))) v H' n':=by
 simp only[de]at d;split at d
 ·rename_i i hi;cases hb:Nat.beq t ty.b with
  | true=>
   rw[hb]at d;simp only[cond_true]at d;split at d
   case h_2=>cases d
   rename_i x y r;injection d with d;subst d;simp only[simple,jD]at hs;injection hs with hs;injection hs with g e;injection e with e k;subst g;subst e;subst k;refine gC ?_;refine ψ (rh (aC.ok _ _ hi) λz f _ s B=>?_);refine ψ (ψ (ψ (tZ ?_)));obtain⟨η',h1,h2⟩:=Trans.new (room:=2) (o:=.b x y t) (ob:=.cells z.cells t) m (λη' hle=>by
    have h:=f η';rw[r]at h;generalize D:z.cells=A at h;obtain⟨A⟩:=A;cases h with
    | cons _ u _ l h1 h2=>
     cases h2 with
     | cons _ q _ l h2 C=>
      cases C;exact⟨rfl,u,q,rfl,h1,h2⟩)
   refine Ω (Ω (Ω ⟨η',h1,?_⟩));have:=an.p (η:=η') n 0 _ h2;exact this
  | false=>
  rw[hb]at d;simp only[cond_false]at d;injection d with d;subst d;simp only[simple,jD]at hs;injection hs with hs;injection hs with g e;injection e with e k;subst g;subst e;subst k;refine gC ?_;refine ψ (rh (aC.ok _ _ hi) λz f _ s B=>?_);refine ψ (ψ (ψ (tZ ?_)));have hl:i.zero.length=z.cells.size:=by rw[(f η).length];simp
  obtain⟨η',h1,h2⟩:=Trans.new (room:=z.cells.size) (o:=.c i.zero t 0) (ob:=.cells z.cells t) m (λη' hle=>⟨z.cells,(0,0),rfl,by simp,by simp;omega,λj v hj=>by have:=(f η').get hj;simpa using this,.inl U⟩)
  refine Ω (Ω (Ω ⟨η',h1,?_⟩));have:=an.p (η:=η') n 0 _ h2;exact this
 ·cases d
end ops
end
section
section ops
variable {P:Program}{ty:Ty}{W:Nat->Code->AC->Prop}{η:Env}{T:Tr V}{H H':Hp}{n n':K}{w:World}{tmps:Array Value}{v:V}
def EL(a:aU W η H n w)(e:TypeId){l:List V}{xs:List Value}(hl:aL η l xs)(more:List Value):
 ∃η',Trans W η H n w η' (H.put (some (.c l e 0)) n) n.succ { w with heap:=w.heap.push (.cells (xs++more).toArray e)}/\η' n=some ⟨w.heap.size,0,xs.length+more.length⟩:=
 Trans.new a λη' hle=>⟨(xs++more).toArray,(0,0),rfl,by simp,by show l.length<=xs.length+more.length;rw[hl.length];omega,λj v hj=>by obtain⟨y,h1,h2⟩:=hl.get hj;refine⟨y,?_,h2.mono hle⟩;have b:j<xs.length:=(cZ.1 h1).1;simp[oT b,h1],.inl U⟩
def oC{o:O}{x:V}(h:jD H n o x=some (v,H',n')):v=x/\H'=H.put (some o) n/\n'=n.succ:=by simp only[jD]at h;injection h with h;injection h with h1 h2;injection h2 with h2 a;exact⟨h1.symm,h2.symm,a.symm⟩
def aab(d:aK η T tmps)(e:bM η ty.g)(f:aU W η H n w){t:TypeId}{x:Operand}{a:A}(b:de ty (.box t x)=some a)(hs:simple a T H n=some (v,H',n')):
 eW P W η H n w (do pure (.value (←Instr.box t (ai tmps x)))) v H' n':=by
 simp only[de]at b;split at b
 ·rename_i l h;injection b with b;subst b;simp only[simple]at hs;split at hs
  ·rename_i u i;cases c:aB u.cells with
   | false=>rw[c]at hs;cases hs
   | true=>
    rw[c]at hs;obtain⟨rfl,rfl,rfl⟩:=oC hs;have j:=bT d e h i;obtain⟨k,_⟩:=j.cells c;obtain⟨η',h1,h2⟩:=EL f t k [];refine gC (ψ (ψ (ψ (tZ (Ω (Ω (Ω ⟨η',?_,?_⟩)))))))
    ·simpa using h1
    ·exact an.p (η:=η') n 0 _ h2
  ·cases hs
 ·cases b
def HY(h:aK η T tmps)(m:bM η ty.g){off:Nat->Option (Nat×Nat)}{place:Nat->Option (Nat×Nat)}(hp:∀i o s,off i=some (o,s)->place i=some (o,s))
 {ps:List (Nat×Operand)}{bZ:List (Nat×Nat×ao)}{zs r:List V}{cs:Array Value}(a:xw ty off ps=some bZ)(hs:qh T zs bZ=some r)(e:aL η zs cs.toList):
 ∃d,Instr.fill place cs (ps.map λp=>(p.1,ai tmps p.2))=some d/\aL η r d.toList:=by
 induction ps generalizing bZ zs cs with
 | nil=>
  simp only[xw]at a;injection a with a;subst a;simp only[qh]at hs;injection hs with hs;subst hs;exact⟨cs,rfl,e⟩
 | cons p ps ih=>
  obtain⟨i,x⟩:=p;simp only[xw]at a;split at a
  ·rename_i o s J L q t has;injection a with a;subst a;simp only[qh]at hs;split at hs
   ·rename_i u z;cases hb:(Nat.beq u.cells.length s&&aB u.cells) with
    | false=>rw[hb]at hs;cases hs
    | true=>
     rw[hb]at hs;simp only[cond_true]at hs;rw[aD]at hb;split at hs
     ·rename_i A B;have C:=bT h m t z;obtain⟨b,_⟩:=C.cells hb.2;have hlen:(ai tmps x).cells.size=s:=by
       have h1:=b.length;have h2:u.cells.length=s:=bY hb.1;simp at h1;omega
      obtain⟨g1,M,D⟩:=HN B;have E:cs.size=zs.length:=by rw[e.length];simp
      have key:∀(l:List Value) (k:Nat) (c:Array Value),(l.zipIdx k).foldl (λcs (y,j)=>cs.setIfInBounds (o+j) y) c=lr c (o+k) l:=by
       intro l
       induction l with
       | nil=>intro k c;rfl
       | cons y l F=>intro k c;simp only[List.zipIdx_cons,List.foldl_cons,lr];rw[F];rfl
      have G:(ai tmps x).cells.zipIdx.foldl (λcs (y,j)=>cs.setIfInBounds (o+j) y) cs=lr cs o (ai tmps x).cells.toList:=by rw[←Array.foldl_toList,Array.toList_zipIdx];exact key _ 0 cs
      have I:aL η A (lr cs o (ai tmps x).cells.toList).toList:=by
       refine aL.EF (by rw[g1];simp[EG,E]) λj v hj=>?_;rw[mh,EH _ _ _ (by rw[←b.length];omega)];rw[D]at hj;by_cases f:o<=j/\j<o+u.cells.length
       ·rw[ab f]at hj;rw[ab (by rw[←b.length];omega)];exact b.get hj
       ·rw[Γ f]at hj;rw[Γ (by rw[←b.length];omega)];have:=e.get hj;rwa [mh]at this
      obtain⟨d,h1,h2⟩:=ih has hs I;refine⟨d,?_,h2⟩;simp only[eY,Instr.fill,hp i o s q,hlen];rw[Γ (by
       have:u.cells.length=s:=bY hb.1;simp;omega)]
      rw[G];exact h1
     ·cases hs
   ·cases hs
  ·cases a
def O3{l:Array Field}{fs:List (Nat×Nat)}(a:fs=l.toList.map (λf=>(f.type,f.offset))){i o s:Nat}(h:EA ty fs i=some (o,s)):
 ∃f j,l[i]?=some f/\f.offset=o/\ty f.type=some j/\j.size=s:=by
 unfold EA at h;rw[oB,a,List.getElem?_map]at h;cases e:l[i]? with
 | none=>rw[mh,e]at h;cases h
 | some f=>
  rw[mh,e]at h;simp only[ox]at h;split at h
  ·rename_i j hj;injection h with h;injection h with h1 h2;exact⟨f,j,rfl,h1,hj,h2⟩
  ·cases h
def aad{α β:Type}{f:α->Sem β}{g:α->β}(l:List α)(h:∀a∈l,∀w',aN P (f a) w' λb c=>b=g a/\c=w'):
 ∀w,aN P (l.mapM f) w λr w'=>r=l.map g/\w'=w:=by
 induction l with
 | nil=>intro w;exact Ω ⟨rfl,rfl⟩
 | cons a l ih=>
  intro w;rw[List.mapM_cons];refine ψ ((h a (by simp) w).mono ?_);rintro b w' ⟨rfl,rfl⟩;refine ψ ((ih (λx d=>h x (by simp[d])) w').mono ?_);rintro r c ⟨rfl,rfl⟩;exact Ω ⟨rfl,rfl⟩
def aae{α β:Type}{f:α->Sem β}{g:α->β}(l:Array α)(h:∀a∈l.toList,∀w',aN P (f a) w' λb c=>b=g a/\c=w'):
 ∀w,aN P (l.mapM f) w λr w'=>r=l.map g/\w'=w:=by
 intro w;obtain⟨r,w',h1,rfl,rfl⟩:=aad (P:=P) (g:=g) l.toList h w;refine⟨(l.toList.map g).toArray,w',?_,jB (by simp),rfl⟩;rw[Array.mapM_eq_mapM_toList];show(Sem.bind (l.toList.mapM f) _).run P w'=_;rw[Sem.run_bind',h1];rfl
def uf(z:List V)(k:Nat):(dS z k).length=k*z.length:=by
 induction k with
 | zero=>simp[dS]
 | succ k ih=>simp[dS,ih,tQ,oW]
def EM{z:List V}{a:Array Value}(h:aL η z a.toList)(k m:Nat)(hm:m=k*a.size):aL η (dS z k) ((Array.range m).map (a[· % a.size]!)).toList:=by
 have c:z.length=a.size:=by rw[h.length];simp
 refine aL.EF (by rw[uf];simp[hm,c]) λi v hi=>?_;subst hm;have b:i<k*a.size:=by have:=(cZ.1 hi).1;rw[uf,c]at this;exact this
 have f:0<a.size:=Bq λe=>by rw[e]at b;simp at b
 have g:z[i % z.length]?=some v:=by
  clear h
  induction k generalizing i with
  | zero=>simp at b
  | succ k ih=>
   simp only[dS]at hi;by_cases h1:i<z.length
   ·rw[oT h1]at hi;rw[zm h1];exact hi
   ·rw[qc (by omega)]at hi;have:=ih (i - z.length) hi (by rw[tQ]at b;omega);rw[Nat.mod_eq_sub_mod (by omega)];exact this
 rw[c]at g;obtain⟨y,d,hv⟩:=h.get g;refine⟨y,?_,hv⟩;rw[mh]at d ⊢;simp only[Array.getElem?_map,Array.getElem?_range];rw[ab b];simp only[ox];rw[getElem!_pos a _ (oU _ f)];rw[mg (oU _ f)]at d;exact d
def aaf(aC:cP P ty)(D:aK η T tmps)(E:bM η ty.g)(F:aU W η H n w){t:TypeId}{ps:Array (Nat×Operand)}{a:A}(b:de ty (.build t ps)=some a)
 (hs:simple a T H n=some (v,H',n')):eW P W η H n w (do pure (.value (←Instr.build t (ps.map λ(i,x)=>(i,ai tmps x))))) v H' n':=by
 simp only[de]at b;split at b
 case h_2=>cases b
 rename_i i hi;have q:=aC.ok _ _ hi;have G:(ps.map λ(i,x)=>(i,ai tmps x)).toList=ps.toList.map λp=>(p.1,ai tmps p.2):=by simp
 split at b
 ·rename_i fs plain s;split at b
  ·rename_i l hl;injection b with b;subst b;simp only[simple]at hs;split at hs
   ·rename_i r u;injection hs with hs;injection hs with y c;injection c with c B;subst y;subst c;subst B;have d:=q.desc;rw[s]at d;obtain⟨I,L,M,N,_⟩:=d;refine gC (ψ (rh q λz C _ _ _=>?_));refine ψ (aY L ?_);refine ψ ((aae (g:=λf:Field=>(f.offset,((P.info? f.type).map (·.size)).getD 0)) I (λf hf w'=>?_) w).mono ?_)
    ·obtain⟨ti,J⟩:=N f hf;refine ψ (ψ (wb J (Ω (Ω ⟨?_,rfl⟩))));simp[J]
    ·rintro r' w' ⟨rfl,rfl⟩;obtain⟨O,h1,h2⟩:=HY (place:=λk=>(I.map (λf:Field=>(f.offset,((P.info? f.type).map (·.size)).getD 0)))[k]?) D E (λk o sz h=>by
      obtain⟨f,j,g1,Q,R,S⟩:=O3 M h;obtain⟨ti,Y,U,X,_⟩:=(aC.ok _ _ R).info;simp[g1,U,Q,X,S]) hl u (C η)
     rw[G,h1];exact Ω ⟨η,.refl F,.a _ _ h2⟩
   ·cases hs
  ·cases b
 ·rename_i m e s;split at b
  ·rename_i j hj;split at b
   ·rename_i l hl;injection b with b;subst b;simp only[simple]at hs;split at hs
    ·rename_i r u;injection hs with hs;injection hs with y c;injection c with c B;subst y;subst c;subst B;have d:=q.desc;rw[s]at d;refine gC (ψ (rh q λz C _ _ _=>?_));refine ψ (aY d ?_);refine ψ (lu (aC.ok _ _ hj) ?_);obtain⟨O,h1,h2⟩:=HY (place:=λi=>some (i*j.size,j.size)) D E (λ_ _ _ h=>h) hl u (C η);rw[G,h1];exact Ω ⟨η,.refl F,.a _ _ h2⟩
    ·cases hs
   ·cases b
  ·cases b
 ·cases b
end ops
end
section
section ops
variable {P:Program}{ty:Ty}{W:Nat->Code->AC->Prop}{η:Env}{T:Tr V}{H H':Hp}{n n':K}{w:World}{tmps:Array Value}{v:V}
def O5(b:aK η T tmps)(c:bM η ty.g)(d:aU W η H n w){x:Operand}{a:ao}(e:br ty x=some a)(hs:simple (.mv a) T H n=some (v,H',n')):
 eW P W η H n w (pure (.value (ai tmps x))) v H' n':=by
 obtain⟨h1,rfl,rfl⟩:=kc hs;exact MW d (bT b c e h1)
def aag(d:aK η T tmps)(e:bM η ty.g)(h:aU W η H n w){x y z:Operand}{a:A}(c:de ty (.pick x y z)=some a)(hs:simple a T H n=some (v,H',n')):
 eW P W η H n w (do pure (.value (if←asBool (ai tmps x) then ai tmps y else ai tmps z))) v H' n':=by
 simp only[de]at c;split at c
 ·rename_i l m o i j k;injection c with c;subst c;simp only[simple]at hs;split at hs
  ·rename_i b hb;obtain⟨h1,rfl,rfl⟩:=kc hs;have f:=bT d e i hb;generalize ai tmps x=q at f;cases f;refine ψ (Ω ?_);refine Ω ⟨η,.refl h,.inl ⟨_,rfl,?_⟩⟩;cases b with
   | true=>exact bT d e j h1
   | false=>exact bT d e k h1
  ·cases hs
 ·cases c
def aah(aC:cP P ty)(m:aK η T tmps)(o:bM η ty.g)(s:aU W η H n w){t:TypeId}{len:Nat}{ps:Array (Nat×Operand)}{a:A}
 (b:de ty (.buildSlice t len ps)=some a)(hs:simple a T H n=some (v,H',n')):
 eW P W η H n w (do pure (.value (←Instr.buildSlice t len (ps.map λ(i,x)=>(i,ai tmps x))))) v H' n':=by
 simp only[de]at b;split at b
 case h_2=>cases b
 rename_i i hi;have u:(ps.map λ(i,x)=>(i,ai tmps x)).toList=ps.toList.map λp=>(p.1,ai tmps p.2):=by simp
 split at b
 ·rename_i e B;split at b
  ·rename_i j hj;cases hb:Nat.ble (len*j.size) 16777216 with
   | false=>rw[hb]at b;cases b
   | true=>
    rw[hb]at b;simp only[cond_true]at b;split at b
    ·rename_i l hl;injection b with b;subst b;simp only[simple]at hs;split at hs
     ·rename_i r C;obtain⟨rfl,rfl,rfl⟩:=oC hs;have f:=(aC.ok _ _ hi).desc;rw[B]at f;refine gC (ψ (aY f ?_));refine ψ (lu (aC.ok _ _ hj) ?_);have hle:¬ len*j.size>2 ^ 24:=by have:=j4 hb;omega
      simp only[hle,if_false];have k:∀z:Array Value,(∀η,aL η (dS j.zero len) ((Array.range (len*j.size)).map (z[· % z.size]!)).toList)->aN P (do
       let some cells:=Instr.fill (λi=>some (i*j.size,j.size)) ((Array.range (len*j.size)).map (z[· % z.size]!)) (ps.map λ(i,x)=>(i,ai tmps x)).toList
        | stuck "buildSlice: a part of the wrong size"
       pure (.slice (some (←newRow e cells)) len len)) w λy w'=>∃η',Trans W η H n w η' (H.put (some (.c r e 0)) n) n.succ w'/\an η' (.sl n 0 len len) y:=by
       intro z d;obtain⟨G,h1,h2⟩:=HY (place:=λi=>some (i*j.size,j.size)) m o (λ_ _ _ h=>h) hl C (d η);rw[u,h1];obtain⟨η',g1,D⟩:=EL s e h2 [];refine ψ (ψ (tZ (Ω (Ω ⟨η',?_,?_⟩))))
       ·simpa using g1
       ·exact an.sl (η:=η') n 0 len len _ D
      by_cases h0:len*j.size=0
      ·rw[ab h0];exact ψ (Ω (k #[] (λη=>by
        obtain⟨ti,z,_,_,_,_,_,_,_,q,_⟩:=(aC.ok _ _ hj).info;have:dS j.zero len=[]:=by rw[←kW,uf,q,h0]
        rw[this,h0];have E:Array.range 0=#[]:=rfl;rw[E,Array.map_empty];exact .nil)))
      ·rw[Γ h0];refine ψ (rh (aC.ok _ _ hj) λz d _ _ F=>ψ (Ω ?_));exact k z.cells (λη=>EM (d η) len _ (by rw[F]))
     ·cases hs
    ·cases b
  ·cases b
 ·cases b
def aai(k:aK η T tmps)(m:bM η ty.g)(r:aU W η H n w){x:Operand}{a:A}(h:de ty (.nilCheck x)=some a)(hs:simple a T H n=some (v,H',n'))(o:Oper)(u:o.op=.nilCheck x):
 eW P W η H n w (execOp (ai tmps) o) v H' n':=by
 simp only[de]at h;split at h
 ·rename_i z s;injection h with h;subst h;unfold execOp;simp only[u];simp only[simple]at hs;split at hs
  ·rename_i b o' hb;injection hs with hs;injection hs with i d;injection d with d j;subst i;subst d;subst j;have e:=bT k m s hb;generalize ai tmps x=q at e;cases e with
   | p _ _ L t=>exact MW r (.p _ _ L t)
  ·rename_i g a c hb;injection hs with hs;injection hs with i d;injection d with d j;subst i;subst d;subst j;have e:=bT k m s hb;generalize ai tmps x=q at e;cases e with
   | f _ _ _ _ _ h1 h2=>exact MW r (.f _ _ _ _ _ h1 h2)
  ·rename_i l hb;injection hs with hs;injection hs with i d;injection d with d j;subst i;subst d;subst j;have e:=bT k m s hb;generalize ai tmps x=q at e;cases e with
   | y _ L t=>exact MW r (.y _ L t)
  ·cases hs
 ·cases h
def O6{t:TypeId}{d:TD}(h:HR P t d)(h1:d≠.other)(h2:d≠.iface):∃u,P.underlying t=some u/\∀ms,u≠.interface ms:=by
 cases d with
 | other=>exact absurd rfl h1
 | iface=>exact absurd rfl h2
 | jU fs plain=>obtain⟨l,a,_⟩:=h;exact⟨_,a,λ_ e=>by cases e⟩
 | func=>obtain⟨_,_,_,a⟩:=h;exact⟨_,a,λ_ e=>by cases e⟩
 | bool=>exact⟨_,h,λ_ e=>by cases e⟩
 | int _=>exact⟨_,h,λ_ e=>by cases e⟩
 | str=>exact⟨_,h,λ_ e=>by cases e⟩
 | ptr _=>exact⟨_,h,λ_ e=>by cases e⟩
 | zE=>exact⟨_,h,λ_ e=>by cases e⟩
 | slice _=>exact⟨_,h,λ_ e=>by cases e⟩
 | arr _ _=>exact⟨_,h,λ_ e=>by cases e⟩
 | map _ _=>exact⟨_,h,λ_ e=>by cases e⟩
def aaj(aC:cP P ty)(d:aK η T tmps)(e:bM η ty.g)(f:aU W η H n w){t:TypeId}{x:Operand}{a:A}(b:de ty (.makeInterface t x)=some a)
 (hs:simple a T H n=some (v,H',n')):eW P W η H n w (do pure (.value (←Instr.makeInterface t (ai tmps x)))) v H' n':=by
 simp only[de]at b;split at b
 ·rename_i i h hi j;have k:=(aC.ok _ _ hi).desc;have l:a=.mif t h/\i.desc≠.other/\i.desc≠.iface:=by
   split at b
   ·cases b
   ·cases b
   ·rename_i h1 h2;injection b with b;exact⟨b.symm,h2,h1⟩
  obtain⟨rfl,h1,h2⟩:=l;obtain⟨u,m,o⟩:=O6 k h1 h2;simp only[simple]at hs;split at hs
  ·rename_i y p;injection hs with hs;injection hs with q c;injection c with c r;subst q;subst c;subst r;refine gC (ψ (aY m ?_));have s:=bT d e j p;cases u<;>first | exact absurd rfl (o _) | exact Ω ⟨η,.refl f,.j9 _ _ _ s⟩
  ·cases hs
 ·cases b
def aak(h:aK η T tmps)(i:bM η ty.g)(j:aU W η H n w){fn:Fn}{f c:Array Operand}{a:A}(b:de ty (.makeFunc fn f c)=some a)
 (hs:simple a T H n=some (v,H',n')):eW P W η H n w (do pure (.value (←Instr.makeFunc fn (f.map (ai tmps)) (c.map (ai tmps))))) v H' n':=by
 simp only[de]at b;split at b
 ·rename_i g;split at b
  ·rename_i f' c' hf k;injection b with b;subst b;simp only[simple]at hs;split at hs
   ·rename_i m o h1 h2;injection hs with hs;injection hs with e d;injection d with d l;subst e;subst d;subst l;refine gC (Ω ⟨η,.refl j,?_⟩);have r1:=zH h i hf h1;have r2:=zH h i k h2;have e:f.map (ai tmps)=⟨f.toList.map (ai tmps)⟩:=by apply jB;simp
    have d:c.map (ai tmps)=⟨c.toList.map (ai tmps)⟩:=by apply jB;simp
    rw[e,d];exact .f _ _ _ _ _ r1 r2
   ·cases hs
  ·cases b
 ·cases b
def aal(aC:cP P ty)(d:aU W η H n w){t:TypeId}{r:Option Operand}{a:A}(b:de ty (.makeMap t r)=some a)
 (hs:simple a T H n=some (v,H',n')):eW P W η H n w (do pure (.value (←Instr.makeMap t (r.map (ai tmps))))) v H' n':=by
 simp only[de]at b;split at b
 case h_2=>cases b
 rename_i i hi;have c:=(aC.ok _ _ hi).desc;have key:a=.mmap->aN P (do pure (.map (some (←newObj (.map #[] 0)))):Sem Value) w λy w'=>∃η',Trans W η H n w η' H' n' w'/\an η' v y:=by rintro rfl;obtain⟨rfl,rfl,rfl⟩:=oC hs;obtain⟨η',h1,h2⟩:=Trans.new (room:=0) (o:=.mp [] 0) (ob:=.map #[] 0) d (λη' hle=>⟨#[],rfl,trivial⟩);exact ψ (tZ (Ω ⟨η',h1,an.m (η:=η') n _ h2⟩))
 split at b
 ·injection b with b;exact gC (key b.symm)
 ·rename_i k e g h f;injection b with b;rw[f]at c;refine gC ?_;unfold Instr.makeMap;exact ψ (aY c (ψ (ψ (Ω (Ω (key b.symm))))))
 ·cases b
end ops
end
section
def wrap_i64{n:Int}(h0:0<=n)(h1:n<=9223372036854775807):IntKind.i64.wrap n=n:=by unfold IntKind.wrap;have hm:n % (2 ^ IntKind.i64.bits:Int)=n:=Int.emod_eq_of_lt h0 (by have:(2:Int) ^ IntKind.i64.bits=18446744073709551616:=rfl;omega);simp only[hm];rw[Γ];intro h;rw[aD,cC]at h;have:(2:Int) ^ (IntKind.i64.bits - 1)=9223372036854775808:=rfl;omega
section ops
variable {P:Program}{ty:Ty}{W:Nat->Code->AC->Prop}{η:Env}{T:Tr V}{H H':Hp}{n n':K}{w:World}{tmps:Array Value}{v:V}
def dC{a:V}{b:Hp}{c:K}(h:(some (a,b,c):fY)=some (v,H',n')):v=a/\H'=b/\n'=c:=by injection h with h;injection h with h1 h2;injection h2 with h2 d;exact⟨h1.symm,h2.symm,d.symm⟩
def aam(aC:cP P ty)(k:aK η T tmps)(l:bM η ty.g)(m:aU W η H n w){t:TypeId}{x:Operand}{f:Nat}{a:A}(c:de ty (.fieldAddr t x f)=some a)
 (hs:simple a T H n=some (v,H',n')):eW P W η H n w (do pure (.value (←Instr.fieldAt t (ai tmps x) f))) v H' n':=by
 simp only[de]at c;split at c
 case h_2=>cases c
 rename_i i G hi r;split at c
 case h_2=>cases c
 rename_i fs plain s;have d:=(aC.ok _ _ hi).desc;rw[s]at d;obtain⟨I,u,y,_⟩:=d;split at c
 case h_2=>cases c
 rename_i o sz hf;cases hb:Nat.beq sz 0 with
 | true=>rw[hb]at c;cases c
 | false=>
  rw[hb]at c;simp only[cond_false]at c;injection c with c;subst c;obtain⟨fd,j,g1,z,B,C⟩:=O3 y hf;simp only[simple]at hs;split at hs
  ·rename_i b o' D;obtain⟨rfl,rfl,rfl⟩:=dC hs;have h:=bT k l r D;generalize ai tmps x=q at h;cases h with
   | p _ _ L E=>
    refine gC (ψ (aY u ?_));simp only[g1];refine ψ (Ω ?_);refine ψ (ψ (lu (aC.ok _ _ B) ?_));have F:¬ j.size=0:=by intro e;rw[C]at e;rw[e]at hb;cases hb
    simp only[F,if_false];refine Ω (Ω ⟨η,.refl m,?_⟩);rw[re,z];have:=an.p (η:=η) b (o'+o) L E;rw[show L.off+o'+o=L.off+(o'+o) by omega];exact this
  ·cases hs
def H4{t:TypeId}{i:TI}(hi:ua P t i){l:List V}{cs:Array Value}(hl:aL η l cs.toList){o:Nat}{v:V}
 (h:(bif i.desc.agg then (match cw l o i.size with | some l'=>some (V.a l') | none=>none) else nth l o)=some v):
 aN P (part t cs o) w λy w'=>an η v y/\w'=w:=by
 refine ψ (O0 hi ?_);cases b:i.desc.agg with
 | true=>
  rw[b]at h;simp only[cond_true]at h;split at h
  ·rename_i r d;injection h with h;subst h;obtain⟨rfl,e⟩:=nj d;simp only[if_true];refine ψ (lu hi (Ω ⟨?_,rfl⟩));have:cs.extract o (o+i.size)=⟨(cs.toList.drop o).take i.size⟩:=by
    apply jB;simp
   rw[this];exact .a _ _ (hl.sub o i.size)
  ·cases h
 | false=>
  rw[b]at h;simp only[cond_false]at h;rw[oB]at h;obtain⟨y,c,hv⟩:=hl.get h;rw[mh]at c;simp only[mV,if_false,c];exact Ω ⟨hv,rfl⟩
def aan(aC:cP P ty)(k:aK η T tmps)(m:bM η ty.g)(p:aU W η H n w){t:TypeId}{x:Operand}{f:Nat}{a:A}(b:de ty (.field t x f)=some a)
 (hs:simple a T H n=some (v,H',n')):eW P W η H n w (do pure (.value (←Instr.field t (ai tmps x) f))) v H' n':=by
 simp only[de]at b;split at b
 case h_2=>cases b
 rename_i i F hi s;split at b
 case h_2=>cases b
 rename_i fs plain u;have d:=(aC.ok _ _ hi).desc;rw[u]at d;obtain⟨z,B,C,_⟩:=d;split at b
 case h_2=>cases b
 rename_i G o hf;split at b
 case h_2=>cases b
 rename_i j hj;injection b with b;subst b;rw[oB,C,List.getElem?_map,mh]at hf;cases e:z[f]? with
 | none=>rw[e]at hf;cases hf
 | some fd=>
  rw[e]at hf;simp only[ox]at hf;injection hf with hf;injection hf with D E;simp only[simple]at hs;split at hs
  ·rename_i l hl;have c:=bT k m s hl;generalize ai tmps x=q at c;cases c with
   | a _ l' c=>
    refine gC (ψ (aY B ?_));simp only[e];refine ψ (Ω ?_);rw[D,E];have hp:(bif j.desc.agg then (match cw l o j.size with | some l'=>some (V.a l') | none=>none) else nth l o)=some v/\H'=H/\n'=n:=by
     cases h:j.desc.agg with
     | true=>
      rw[h]at hs;simp only[cond_true]at hs ⊢;split at hs
      ·rename_i r c;obtain⟨rfl,rfl,rfl⟩:=dC hs;simp only[c,and_self]
      ·cases hs
     | false=>
      rw[h]at hs;simp only[cond_false]at hs ⊢;exact kc hs
    obtain⟨hp,rfl,rfl⟩:=hp;exact(H4 (aC.ok _ _ hj) (cs:=⟨l'⟩) c hp).mono λy w' ⟨h1,h2⟩=>⟨η,by subst h2;exact .refl p,h1⟩
  ·cases hs
def aao(aC:cP P ty)(s:aK η T tmps)(u:bM η ty.g)(C:aU W η H n w){t:TypeId}{x ix:Operand}{a:A}(f:de ty (.indexAddr t x ix)=some a)
 (hs:simple a T H n=some (v,H',n')):eW P W η H n w (do pure (.value (←Instr.indexAt t (ai tmps x) (ai tmps ix)))) v H' n':=by
 simp only[de]at f;split at f
 case h_2=>cases f
 rename_i i I J hi D E;have k:=(aC.ok _ _ hi).desc;split at f
 ·rename_i m e y;rw[y]at k;split at f
  case h_2=>cases f
  rename_i j hj;injection f with f;subst f;simp only[simple]at hs;split at hs
  case h_2=>cases hs
  rename_i F k1 d h1 h2;have q:=bT s u D h1;have r:=bT s u E h2;generalize ai tmps x=z at q;generalize ai tmps ix=G at r;cases r with
  | i _ _=>
   split at hs
   case h_2 heq=>cases heq
   case h_3 heq=>cases heq
   case h_4=>cases hs
   rename_i M b o heq;injection heq with heq;subst heq;cases hb:Nat.blt d m with
   | false=>rw[hb]at hs;cases hs
   | true=>
    rw[hb]at hs;obtain⟨rfl,rfl,rfl⟩:=dC hs;have B:d<m:=by have:d+1<=m:=j4 hb;omega
    cases q with
    | p _ _ L h=>
     refine gC (ψ (Ω (ψ (aY k ?_))));refine ψ (Ω ?_);refine ψ (Ω ?_);refine ψ (aY k ?_);have:(0:Int)<=Int.ofNat d/\Int.ofNat d<(m:Int):=⟨qS _,Int.ofNat_lt.2 B⟩;simp only[this,and_self,if_true];refine ψ (lu (aC.ok _ _ hj) (Ω ⟨η,.refl C,?_⟩));rw[re];have:=an.p (η:=η) b (o+d*j.size) L h;show an η _ (.pointer (some ⟨L.blk,L.off+o+d*j.size,none⟩));rw[show L.off+o+d*j.size=L.off+(o+d*j.size) by omega];exact this
 ·rename_i e y;rw[y]at k;split at f
  case h_2=>cases f
  rename_i j hj;injection f with f;subst f;simp only[simple]at hs;split at hs
  case h_2=>cases hs
  rename_i F k1 d h1 h2;have q:=bT s u D h1;have r:=bT s u E h2;generalize ai tmps x=z at q;generalize ai tmps ix=G at r;cases r with
  | i _ _=>
   have main:∀(b:K) (o l c:Nat) (L:Loc),η b=some L->z=.slice (some ⟨L.blk,L.off+o,none⟩) l c->Nat.blt d l=true->some (V.p b (Nat.add o (Nat.mul d j.size)),H,n)=some (v,H',n')->eW P W η H n w (do pure (.value (←Instr.indexAt t z (.int k1 (Int.ofNat d))))) v H' n':=by
    rintro b o l c L h rfl hb hs;obtain⟨rfl,rfl,rfl⟩:=dC hs;have B:d<l:=by have:d+1<=l:=j4 hb;omega
    refine gC (ψ (Ω (ψ (aY k ?_))));refine ψ (Ω ?_);refine ψ (aY k ?_);have:(0:Int)<=Int.ofNat d/\Int.ofNat d<(l:Int):=⟨qS _,Int.ofNat_lt.2 B⟩;simp only[this,and_self,if_true];refine ψ (lu (aC.ok _ _ hj) (Ω ⟨η,.refl C,?_⟩));rw[re];have:=an.p (η:=η) b (o+d*j.size) L h;show an η _ (.pointer (some ⟨L.blk,L.off+o+d*j.size,none⟩));rw[show L.off+o+d*j.size=L.off+(o+d*j.size) by omega];exact this
   split at hs
   case h_1 heq=>cases heq
   case h_4=>cases hs
   ·rename_i b o l c heq;cases q with
    | sl _ _ _ _ L h=>
     cases hb:Nat.blt d l with
     | false=>rw[hb]at hs;cases hs
     | true=>rw[hb]at hs;exact main b o l c L h rfl hb hs
   ·rename_i b o l c heq;cases hb:Nat.blt d l with
    | false=>rw[hb]at hs;cases hs
    | true=>
     rw[hb]at hs;cases q with
     | su _ _ _ _ L c' h h1 h2=>exact main b o l c' L h rfl hb hs
     | se=>cases hb
 ·cases f
end ops
end
section
section ops
variable {P:Program}{ty:Ty}{W:Nat->Code->AC->Prop}{η:Env}{T:Tr V}{H H':Hp}{n n':K}{w:World}{tmps:Array Value}{v:V}
def aap{l m i:Nat}(h:i<l):(strOf l m)[i]?=some (UInt8.ofNat (m / 256 ^ i % 256)):=by
 have:=OV l m i h;show(strOf l m)[i]?=_;have hs:i<(strOf l m).size:=by rw[sT];exact h
 rw[getElem?_pos (strOf l m) i hs];have e:(strOf l m)[i]=(bD l m).toArray[i]'(by simpa[ql]using h):=rfl;rw[e];rw[aX (by rw[ql];exact h)]at this;simpa using this
def aaq(aC:cP P ty)(h:aK η T tmps)(k:bM η ty.g)(D:aU W η H n w){t:TypeId}{x ix:Operand}{a:A}(c:de ty (.index t x ix)=some a)
 (hs:simple a T H n=some (v,H',n')):eW P W η H n w (do pure (.value (←Instr.index t (ai tmps x) (ai tmps ix)))) v H' n':=by
 simp only[de]at c;split at c
 case h_2=>cases c
 rename_i i N O hi E F;have o:=(aC.ok _ _ hi).desc;split at c
 ·rename_i p;rw[p]at o;injection c with c;subst c;simp only[simple]at hs;split at hs
  case h_2=>cases hs
  rename_i I k1 b h1 h2;have d:=bT h k E h1;have f:=bT h k F h2;generalize ai tmps x=J at d;generalize ai tmps ix=L at f;cases f with
  | i _ _=>
   split at hs
   case h_2 heq=>cases heq
   case h_3=>cases hs
   rename_i l m _;cases d with
   | s _ _ hm=>
    cases hb:Nat.blt b l with
    | false=>rw[hb]at hs;cases hs
    | true=>
     rw[hb]at hs;obtain⟨rfl,rfl,rfl⟩:=dC hs;have q:b<l:=by have:b+1<=l:=j4 hb;omega
     refine gC (ψ (Ω ?_));refine ψ (aY o ?_);have h0:(0:Int)<=Int.ofNat b:=qS _;simp only[h0,if_true];rw[show(Int.ofNat b).toNat=b from rfl,aap q];refine Ω ⟨η,.refl D,?_⟩;have:((UInt8.ofNat (m / 256 ^ b % 256)).toNat:Int)=Int.ofNat (GW m b):=by have u:GW m b=m / 256 ^ b % 256:=rfl;rw[u];simp
     rw[this];exact .i _ _
 ·rename_i m e p;rw[p]at o;split at c
  case h_2=>cases c
  rename_i j hj;injection c with c;subst c;simp only[simple]at hs;split at hs
  case h_2=>cases hs
  rename_i I k1 b h1 h2;have d:=bT h k E h1;have f:=bT h k F h2;generalize ai tmps x=J at d;generalize ai tmps ix=L at f;cases f with
  | i _ _=>
   split at hs
   case h_1 heq=>cases heq
   case h_3=>cases hs
   rename_i Q z agg l heq;injection heq with heq;injection heq with u B;injection B with B M;subst u;subst B;subst M;cases d with
   | a _ l' C=>
    cases hb:Nat.blt b m with
    | false=>rw[hb]at hs;cases hs
    | true=>
     rw[hb]at hs;simp only[cond_true]at hs;have q:b<m:=by have:b+1<=m:=j4 hb;omega
     have hp:(bif j.desc.agg then (match cw l (Nat.mul b j.size) j.size with | some l'=>some (V.a l') | none=>none) else nth l (Nat.mul b j.size))=some v/\H'=H/\n'=n:=by
      cases G:j.desc.agg with
      | true=>
       rw[G]at hs;simp only[cond_true]at hs ⊢;split at hs
       ·rename_i r C;obtain⟨rfl,rfl,rfl⟩:=dC hs;simp only[C,and_self]
       ·cases hs
      | false=>
       rw[G]at hs;simp only[cond_false]at hs ⊢;exact kc hs
     obtain⟨hp,rfl,rfl⟩:=hp;refine gC (ψ (Ω ?_));refine ψ (aY o ?_);have:(0:Int)<=Int.ofNat b/\Int.ofNat b<(m:Int):=⟨qS _,Int.ofNat_lt.2 q⟩;simp only[this,and_self,if_true];refine ψ (lu (aC.ok _ _ hj) ?_);exact(H4 (aC.ok _ _ hj) (cs:=⟨l'⟩) C hp).mono λy w' ⟨h1,h2⟩=>⟨η,by subst h2;exact .refl D,h1⟩
 ·cases c
def aar(d:aK η T tmps)(e:bM η ty.g)(f:aU W η H n w){x:Operand}{i:Nat}{a:A}(b:de ty (.extract x i)=some a)
 (hs:simple a T H n=some (v,H',n')):eW P W η H n w (do pure (.value (←Instr.extract (ai tmps x) i))) v H' n':=by
 simp only[de]at b;split at b
 case h_2=>cases b
 rename_i k h;injection b with b;subst b;simp only[simple]at hs;split at hs
 case h_2=>cases hs
 rename_i l hl;obtain⟨h1,rfl,rfl⟩:=kc hs;have c:=bT d e h hl;generalize ai tmps x=q at c;cases c with
 | u _ l' c=>
  rw[oB]at h1;obtain⟨y,j,hv⟩:=c.get h1;refine gC ?_;have:(⟨l'⟩:Array Value)[i]?=some y:=by simpa using j
  simp only[Instr.extract,this];exact Ω ⟨η,.refl f,hv⟩
def H6{ok:Bool}{z:V}{b:Bool}{y:Value}(h:an η z y):an η (xu ok z b) (if ok then .tuple #[y,.bool b] else y):=by
 cases ok with
 | true=>exact .u _ _ (.cons _ _ _ _ h (.cons _ _ _ _ (.b b) .nil))
 | false=>exact h
def aas(aC:cP P ty)(k:aK η T tmps)(l:bM η ty.g)(m:aU W η H n w){x:Operand}{o t:TypeId}{ok:Bool}{a:A}(c:de ty (.typeAssert x o t ok)=some a)
 (hs:simple a T H n=some (v,H',n')):eW P W η H n w (do pure (.value (←Instr.typeAssert (ai tmps x) o t ok))) v H' n':=by
 simp only[de]at c;split at c
 case h_2=>cases c
 rename_i i s hi p;have B:=(aC.ok _ _ hi).desc;have C:a=.tas t i.zeroV ok s/\i.desc≠.other/\i.desc≠.iface:=by
  split at c
  ·cases c
  ·cases c
  ·rename_i h1 h2;injection c with c;exact⟨c.symm,h2,h1⟩
 obtain⟨rfl,g1,D⟩:=C;obtain⟨u,f,h⟩:=O6 B g1 D;have r:ok=true->aN P (do pure (.tuple #[←zeroValue t,.bool false]):Sem Value) w λy w'=>∃η',Trans W η H n w η' H n w'/\an η' (.u [i.zeroV,.b false]) y:=λ_=>
  ψ (rh (aC.ok _ _ hi) λz _ E _ _=>Ω ⟨η,.refl m,.u _ _ (.cons _ _ _ _ (E η) (.cons _ _ _ _ (.b _) .nil))⟩)
 simp only[simple]at hs;split at hs
 ·rename_i j;cases ok with
  | false=>cases hs
  | true=>
   obtain⟨rfl,rfl,rfl⟩:=dC hs;have d:=bT k l p j;generalize ai tmps x=q at d;cases d;refine gC (ψ (aY f ?_));cases u<;>first | exact absurd rfl (h _) | exact r rfl
 ·rename_i t' v' j;have d:=bT k l p j;generalize ai tmps x=q at d;cases d with
  | j9 _ _ y d=>
   cases hb:Nat.beq t t' with
   | true=>
    rw[hb]at hs;obtain⟨rfl,rfl,rfl⟩:=dC hs;have e:t'=t:=(bY hb).symm;subst e;refine gC (ψ (aY f ?_));cases u<;>first
     | exact absurd rfl (h _)
     | (simp only[if_true];exact Ω ⟨η,.refl m,H6 d⟩)
   | false=>
    rw[hb]at hs;simp only[cond_false]at hs;cases ok with
    | false=>cases hs
    | true=>
     obtain⟨rfl,rfl,rfl⟩:=dC hs;have e:¬ t'=t:=λe=>by subst e;simp[Nat.beq_refl]at hb
     refine gC (ψ (aY f ?_));cases u<;>first
      | exact absurd rfl (h _)
      | (simp only[e,if_false];exact r rfl)
 ·cases hs
end ops
end
section
def aat{k:IntKind}{n:Int}(h:fits k n=true):k.wrap n=n:=by
 have key:∀(b:Nat) (s:Bool) (B C:Int),(2:Int) ^ b=B->(2:Int) ^ (b - 1)=C->B=2*C->0<C->(s=true -> -C<=n/\n<C)->(s=false->0<=n/\n<B)->(if s&&decide (n % (2 ^ b:Int)>=(2 ^ (b - 1):Int)) then n % (2 ^ b:Int) - (2 ^ b:Int) else n % (2 ^ b:Int))=n:=by
  intro b s B C hB d g i h1 h2;rw[hB,d];cases s with
  | false=>
   obtain⟨a,c⟩:=h2 rfl;simp only[vO,mV,if_false];exact Int.emod_eq_of_lt a c
  | true=>
   obtain⟨a,c⟩:=h1 rfl;by_cases f:0<=n
   ·have:n % B=n:=Int.emod_eq_of_lt f (by omega);rw[this,Γ];simp;omega
   ·have:n % B=n+B:=by
     have:=Int.add_emod_right n B;rw[←this];exact Int.emod_eq_of_lt (by omega) (by omega)
    rw[this,ab]
    ·omega
    ·simp;omega
 unfold IntKind.wrap;cases k<;>cases n<;>first | (cases h;done) | skip
 all_goals
  rename_i m;have hm:=j4 h;have j:Int.ofNat m=(m:Int):=rfl
 ·exact key 32 true 4294967296 2147483648 rfl rfl rfl (by omega) (λ_=>⟨by omega,by omega⟩) (λe=>by cases e)
 ·exact key 32 true 4294967296 2147483648 rfl rfl rfl (by omega) (λ_=>⟨by omega,by omega⟩) (λe=>by cases e)
 ·exact key 64 true 18446744073709551616 9223372036854775808 rfl rfl rfl (by omega) (λ_=>⟨by omega,by omega⟩) (λe=>by cases e)
 ·exact key 64 true 18446744073709551616 9223372036854775808 rfl rfl rfl (by omega) (λ_=>⟨by omega,by omega⟩) (λe=>by cases e)
 ·exact key 8 false 256 128 rfl rfl rfl (by omega) (λe=>by cases e) (λ_=>⟨by omega,by omega⟩)
 ·exact key 16 false 65536 32768 rfl rfl rfl (by omega) (λe=>by cases e) (λ_=>⟨by omega,by omega⟩)
 ·exact key 32 false 4294967296 2147483648 rfl rfl rfl (by omega) (λe=>by cases e) (λ_=>⟨by omega,by omega⟩)
 ·exact key 64 false 18446744073709551616 9223372036854775808 rfl rfl rfl (by omega) (λe=>by cases e) (λ_=>⟨by omega,by omega⟩)
def ri(k:IntKind)(n:Int):wr k n=k.wrap n:=by
 unfold wr;cases h:fits k n with
 | true=>exact(aat h).symm
 | false=>rfl
def zI(a b:Int):qI a b=(a==b):=by
 cases a<;>cases b<;>simp[qI]
 ·rename_i m n;rw[qT];simp[Nat.beq_eq];omega
 ·rename_i m n;rw[qT];simp[Nat.beq_eq]
def BQ(a b:Int):vh a b=decide (a<b):=by
 cases a<;>cases b<;>simp only[vh]
 ·rename_i m n;have c:Int.ofNat m=(m:Int):=rfl;have d:Int.ofNat n=(n:Int):=rfl;rw[qT];simp only[cC,Nat.blt,Nat.ble_eq];constructor<;>intro h<;>omega
 ·rename_i m n;simp;omega
 ·rename_i m n;simp;omega
 ·rename_i m n;rw[qT];simp only[cC,Nat.blt,Nat.ble_eq];constructor<;>intro h<;>omega
def O8(a b:Int):BD a b=decide (a<=b):=by unfold BD;rw[BQ];rw[qT];simp
def EO{a b:IntKind}(h:Nat.beq (kn a) (kn b)=true):a=b:=by cases a<;>cases b<;>first | rfl | (exact absurd h (by decide))
section ops
variable {P:Program}{ty:Ty}{W:Nat->Code->AC->Prop}{η:Env}{T:Tr V}{H H':Hp}{n n':K}{w:World}{tmps:Array Value}{v:V}
def sU(P:Program)(w:World)(η:Env)(s:Sem Value)(v:V):Prop:=aN P s w λy w'=>an η v y/\w'=w
def sU.ok{s:Sem Value}{v:V}(c:aU W η H n w)(h:sU P w η s v):aN P s w λy w'=>∃η',Trans W η H n w η' H n w'/\an η' v y:=
 h.mono λ_ _ ⟨a,b⟩=>⟨η,by subst b;exact .refl c,a⟩
def iZ{x:Value}{v:V}(h:an η v x):sU P w η (pure x) v:=Ω ⟨h,rfl⟩
def BR(op:BinOp)(k:IntKind)(x y:Int):Sem Value:=
 match op with
 | .add | .sub | .mul=>Op.intArith op k x y
 | .quo | .rem=>Op.intDiv op k x y
 | .and | .or | .xor | .andNot=>Op.intBits op k x y
 | _=>Op.intCmp op x y
def O9{op:BinOp}{k:IntKind}{x y:Int}{v:V}(h:mZ op k x y=some v)(c:op≠.shl/\op≠.shr):
 sU P w η (BR op k x y) v:=by
 cases op<;>simp only[mZ]at h<;>first | (injection h with h;subst h) | skip
 case add=>rw[ri];exact iZ (.i _ _)
 case sub=>rw[ri];exact iZ (.i _ _)
 case mul=>rw[ri];exact iZ (.i _ _)
 case quo=>
  cases a:qI y 0 with
  | true=>rw[a]at h;cases h
  | false=>
   rw[a]at h;injection h with h;subst h;rw[zI]at a;have:¬ y=0:=by simpa using a
   simp only[BR,Op.intDiv,this,if_false];rw[ri];exact iZ (.i _ _)
 case rem=>
  cases a:qI y 0 with
  | true=>rw[a]at h;cases h
  | false=>
   rw[a]at h;injection h with h;subst h;rw[zI]at a;have:¬ y=0:=by simpa using a
   simp only[BR,Op.intDiv,this,if_false];exact iZ (.i _ _)
 case and=>rw[ri];exact iZ (.i _ _)
 case or=>rw[ri];exact iZ (.i _ _)
 case xor=>rw[ri];exact iZ (.i _ _)
 case andNot=>rw[ri];exact iZ (.i _ _)
 case eql=>rw[zI];exact iZ (.b _)
 case neq=>rw[zI];exact iZ (.b _)
 case lss=>rw[BQ];exact iZ (.b _)
 case leq=>rw[O8];exact iZ (.b _)
 case gtr=>rw[BQ];exact iZ (.b _)
 case geq=>rw[O8];exact iZ (.b _)
 case shl=>exact absurd rfl c.1
 case shr=>exact absurd rfl c.2
def Pa{op:BinOp}{k a:IntKind}{x y:Int}{v:V}(h:HF op k x y=some v):sU P w η (Op.shift op k x a y) v:=by
 unfold HF at h;split at h
 ·cases h
 ·rename_i m;have b:(bif Nat.ble m k.bits then m else k.bits)=min (Int.ofNat m).toNat k.bits:=by
   cases hb:Nat.ble m k.bits with
   | true=>have:=j4 hb;simp;omega
   | false=>
    have:¬ m<=k.bits:=λh=>by rw[gk h]at hb;cases hb
    simp;omega
  have c:¬ (Int.ofNat m<0):=by have:=qS m;simp;
  rw[b]at h;unfold Op.shift;simp only[c,if_false];have hp:∀q:Nat,(Int.ofNat (Nat.pow 2 q))=(2:Int) ^ q:=λq=>by show((2 ^ q:Nat):Int)=_;simp
  cases op<;>simp only at h<;>first | (cases h;done) | (injection h with h;subst h)
  ·rw[ri,hp];exact iZ (.i _ _)
  ·rw[hp];exact iZ (.i _ _)
def aav(l n:Nat):(strOf l n).toList=bD l n:=by rw[Go.ByteArray.toList_eq];simp[strOf]
def Pb{l m l' a:Nat}(h:m<256 ^ l)(h':a<256 ^ l'):((bD l m)==(bD l' a))=(Nat.beq l l'&&Nat.beq m a):=by
 rw[qT];simp only[beq_iff_eq,aD,Nat.beq_eq];constructor
 ·intro e;have hl:l=l':=by have:=congrArg List.length e;simpa[ql]using this
  subst hl;exact⟨rfl,ZU h h' e⟩
 ·rintro⟨rfl,rfl⟩;rfl
def aaw(l m l' a:Nat):Op.bytesLess (bD l m) (bD l' a)=slt l m l' a:=by
 induction l generalizing m l' a with
 | zero=>
  cases l' with
  | zero=>rfl
  | succ l'=>rfl
 | succ l ih=>
  cases l' with
  | zero=>rfl
  | succ l'=>
   simp only[bD,Op.bytesLess,slt];rw[ih];have b:(UInt8.ofNat (m % 256)<UInt8.ofNat (a % 256))↔m % 256<a % 256:=by rw[UInt8.lt_iff_toNat_lt];simp
   have c:(UInt8.ofNat (m % 256)=UInt8.ofNat (a % 256))↔m % 256=a % 256:=by
    constructor
    ·intro e;have:=congrArg UInt8.toNat e;simpa using this
    ·intro e;rw[e]
   show(decide _||(_==_&&slt l (m / 256) l' (a / 256)))=(bif Nat.blt (m % 256) (a % 256) then true else bif Nat.beq (m % 256) (a % 256) then slt l (m / 256) l' (a / 256) else false)
   by_cases h1:m % 256<a % 256
   ·have:Nat.blt (m % 256) (a % 256)=true:=gk h1;rw[this,qb (b.2 h1)];rfl
   ·have:Nat.blt (m % 256) (a % 256)=false:=by
     cases hb:Nat.blt (m % 256) (a % 256) with
     | false=>rfl
     | true=>exact absurd (j4 hb) h1
    rw[this,fB (λh=>h1 (b.1 h))];by_cases h2:m % 256=a % 256
    ·rw[h2];simp
    ·have:Nat.beq (m % 256) (a % 256)=false:=by
      cases hb:Nat.beq (m % 256) (a % 256) with
      | false=>rfl
      | true=>exact absurd (bY hb) h2
     rw[this];have:(UInt8.ofNat (m % 256)==UInt8.ofNat (a % 256))=false:=by rw[beq_eq_false_iff_ne];exact λe=>h2 (c.1 e)
     rw[this];rfl
def aax{op:BinOp}{l m l' a:Nat}{v:V}(hm:m<256 ^ l)(c:a<256 ^ l')(h:Ey op l m l' a=some v):sU P w η (Op.stringOp op (strOf l m) (strOf l' a)) v:=by
 unfold Op.stringOp;simp only[aav,Pb hm c,aaw];cases op<;>simp only[Ey]at h<;>first | (cases h;done) | skip
 case add=>
  cases hb:Nat.ble (Nat.add l l') 9223372036854775807 with
  | false=>rw[hb]at h;cases h
  | true=>
   rw[hb]at h;injection h with h;subst h;have hle:l+l'<=9223372036854775807:=j4 hb;have d:IntKind.i64.max=9223372036854775807:=rfl;have:¬ (((strOf l m).size+(strOf l' a).size:Nat):Int)>IntKind.i64.max:=by rw[sT,sT,d];omega
   simp only[this,if_false];have e:strOf l m++strOf l' a=strOf (l+l') (m+a*256 ^ l):=by apply ByteArray.ext;rw[ByteArray.data_append];apply jB;show(_++_:Array UInt8).toList=_;simp[strOf,ZT l m l' a hm]
   rw[e];refine iZ (.s _ _ ?_);show m+a*256 ^ l<256 ^ (l+l');rw[Nat.pow_add];have h1:a*256 ^ l<=(256 ^ l' - 1)*256 ^ l:=gE _ (by omega);have f:0<256 ^ l':=Nat.pow_pos (by omega);have h2:(256 ^ l' - 1)*256 ^ l=256 ^ l'*256 ^ l - 256 ^ l:=by rw[Nat.sub_mul,Nat.one_mul]
   have g:256 ^ l<=256 ^ l'*256 ^ l:=Nat.le_mul_of_pos_left _ f;rw[eR (256 ^ l) (256 ^ l')];omega
 all_goals (injection h with h;subst h;exact iZ (.b _))
end ops
end
end Go.Ev
namespace Go.Ev.X
open Go Go.Ev
section
abbrev Env:=List (K×V)
def lk:Env->K->Option V
 | [],_=>none
 | (k,v)::l,x=>bif K.beq k x then some v else lk l x
def Le(E:Env)(T:Tr V):Prop:=∀k v,lk E k=some v->T.get k=some v
def ge(E:Env):ao->Option V
 | .t k=>lk E k
 | .c v=>some v
def sc(E:Env):List ao->Option (List V)
 | []=>some []
 | x::l=>match ge E x,sc E l with
  | some v,some vs=>some (v::vs)
  | _,_=>none
def Le.nil(T:Tr V):Le [] T:=λ_ _ h=>by cases h
def Le.put{E:Env}{T:Tr V}(h:Le E T)(k:K)(v:V):Le ((k,v)::E) (T.put (some v) k):=by
 intro x w a;rw[Tr.fk];simp only[lk]at a;cases hb:K.beq k x with
 | true=>rw[hb]at a;rw[ab (K.beq_eq hb).symm];exact a
 | false=>
  rw[hb]at a;have:x≠k:=λe=>by rw[e,K.beq_refl]at hb;cases hb
  rw[Γ this];exact h _ _ a
def Le.ge{E:Env}{T:Tr V}(h:Le E T){x:ao}{v:V}(a:ge E x=some v):aq T x=some v:=by
 cases x with
 | t k=>exact h _ _ a
 | c w=>exact a
def Le.sc{E:Env}{T:Tr V}(h:Le E T):∀{l:List ao} {vs:List V},X.sc E l=some vs->eZ T l=some vs:=by
 intro l
 induction l with
 | nil=>intro vs hv;exact hv
 | cons x l ih=>
  intro vs hv;simp only[X.sc]at hv;split at hv
  ·rename_i v ws h1 h2;simp only[eZ,h.ge h1,ih h2];exact hv
  ·cases hv
def gR(d:Option K)(v:V)(E:Env):Env:=
 match d with
 | some k=>(k,v)::E
 | none=>E
def Le.gR{E:Env}{T:Tr V}(h:Le E T)(d:Option K)(v:V):Le (X.gR d v E) (da d (some v) T):=by
 cases d with
 | none=>exact h
 | some k=>exact h.put k v
abbrev iN(n:Nat):V:=.i .i64 (n:Nat)
def Θ:Env->Env->Prop
 | [],_=>True
 | (k,v)::l,E=>lk E k=some v/\Θ l E
def gts(E:Env):Env->List (Option V)
 | []=>[]
 | p::l=>lk E p.1::gts E l
def Θ.rf:∀{l E:Env},gts E l=l.map (λp=>some p.2)->Θ l E
 | [],_,_=>trivial
 | (k,v)::l,E,h=>by injection h with h1 h2;exact⟨h1,Θ.rf h2⟩
def Le.sub{E E':Env}{T:Tr V}(h:Le E T):Θ E' E->Le E' T:=by
 induction E' with
 | nil=>intro _;exact Le.nil T
 | cons p E' ih=>
  intro hs k v hv;obtain⟨a,b⟩:=p;simp only[lk]at hv;cases hb:K.beq a k with
  | true=>rw[hb]at hv;cases hv;rw[←K.beq_eq hb];exact h _ _ hs.1
  | false=>rw[hb]at hv;exact ih hs.2 _ _ hv
abbrev Hf:=K->Option O
def hp(h:Hf)(b:K)(o:Option O):Hf:=λk=>if k=b then o else h k
def fE(H:Hp)(b:K)(o:Option O):(H.put o b).get=hp H.get b o:=by funext k;rw[Tr.fk];rfl
def eJ(h:Hf)(b:K)(o:Option O):hp h b o b=o:=by simp[hp]
def mu(h:Hf){b k:K}(o:Option O)(a:k≠b):hp h b o k=h k:=by simp[hp,a]
def iP(h:Hf)(b:K):Option (List V):=
 match h b with
 | some o=>o.row
 | none=>none
def bc(h:Hf)(agg:Bool)(sz:Nat):V->Option V
 | .p b o=>match iP h b with
  | some l=>bif agg then (match cw l o sz with | some l'=>some (.a l') | none=>none) else nth l o
  | none=>none
 | _=>none
def Pc{H:Hp}{h:Hf}(e:H.get=h)(b:K):rowAt H b=iP h b:=by subst e;rfl
def EP{H:Hp}{h:Hf}(e:H.get=h)(agg:Bool)(sz:Nat)(a:V):tD H agg sz a=bc h agg sz a:=by subst e;rfl
section
variable (C:Nat->Option aE)
def eS(j:DD)(H:Hp)(n:K)(r:R):Prop:=∃f0,∀f,f0<=f->ev C f j H n=some r
def aaz(l:List AO)(T:Tr V)(H:Hp)(n:K)(r:R):Prop:=∃f0,∀f,f0<=f->fc (ev C f) l T H n=some r
def SO(op:A)(E:Env)(h:Hf)(n:K)(k:V->Hf->K->Prop):Prop:=
 ∀T H,Le E T->H.get=h->∃v H' n',(∃f0,∀f,f0<=f->oper (ev C f) op T H n=some (v,H',n'))/\k v H'.get n'
def WO(l:List AO)(E:Env)(h:Hf)(n:K)(Q:Env->Hf->K->Prop):Prop:=
 ∀T H,Le E T->H.get=h->∃T' H' n' E',aaz C l T H n ⟨.normal,T',.q,H',n'⟩/\Le E' T'/\Q E' H'.get n'
def WC(c:AC)(E:Env)(h:Hf)(n:K)(Q:Ex->Env->Hf->K->Prop):Prop:=
 ∀T H,Le E T->H.get=h->∃r E',eS C (.code c T) H n r/\Le E' r.T/\Q r.ex E' r.H.get r.n
def μ(f:V)(l:List V)(h:Hf)(n:K)(Q:V->Hf->K->Prop):Prop:=
 ∀H,H.get=h->∃v H' n',eS C (.call f l) H n ⟨.normal,.e,v,H',n'⟩/\Q v H'.get n'
end
section
variable {C:Nat->Option aE}{E E':Env}{h:Hf}{n:K}{Q Q':Ex->Env->Hf->K->Prop}{q q':Env->Hf->K->Prop}
def eS.step{j:DD}{H:Hp}{r:R}(h:∃f0,∀f,f0<=f->aS C (ev C f) j H n=some r):eS C j H n r:=by
 obtain⟨f0,h⟩:=h;refine⟨f0+1,λf hf=>?_⟩;cases f with
 | zero=>omega
 | succ f=>exact h f (by omega)
def ER{c:AC}(a:WC C c E h n Q)(b:∀ex E h n,Q ex E h n->Q' ex E h n):WC C c E h n Q':=by intro T H d e;obtain⟨r,E',h1,h2,f⟩:=a T H d e;exact⟨r,E',h1,h2,b _ _ _ _ f⟩
def dO{c:AC}(hs:Θ E' E)(a:WC C c E' h n Q):WC C c E h n Q:=λT H b d=>a T H (b.sub hs) d
def au{c:AC}(a:WC C c E' h n Q)(hs:Θ E' E):WC C c E h n Q:=dO hs a
def μ.mono{f:V}{l:List V}{q q':V->Hf->K->Prop}(a:μ C f l h n q)(b:∀v h n,q v h n->q' v h n):μ C f l h n q':=by intro H c;obtain⟨v,H',n',h1,h2⟩:=a H c;exact⟨v,H',n',h1,b _ _ _ h2⟩
def ay(a:Q .normal E h n):WC C .skip E h n Q:=λT H b c=>by subst c;exact⟨⟨.normal,T,.q,H,n⟩,E,eS.step ⟨0,λf _=>rfl⟩,b,a⟩
def bG{id:Nat}(a:Q (.exit id) E h n):WC C (.exit id) E h n Q:=λT H b c=>by subst c;exact⟨⟨.exit id,T,.q,H,n⟩,E,eS.step ⟨0,λf _=>rfl⟩,b,a⟩
def aj(a:Q .ret E h n):WC C .ret E h n Q:=λT H b c=>by subst c;exact⟨⟨.ret,T,.q,H,n⟩,E,eS.step ⟨0,λf _=>rfl⟩,b,a⟩
def ES{c:AC}(a:WC C c E h n Q):WC C (.scope c) E h n Q:=by intro T H b d;obtain⟨r,E',⟨f0,h1⟩,h2,e⟩:=a T H b d;exact⟨r,E',eS.step ⟨f0,λf hf=>h1 f hf⟩,h2,e⟩
def aP{l:List AO}(a:WO C l E h n (λE h n=>Q .normal E h n)):WC C (.reg l) E h n Q:=by intro T H b c;obtain⟨T',H',n',E',⟨f0,h1⟩,h2,d⟩:=a T H b c;exact⟨⟨.normal,T',.q,H',n'⟩,E',eS.step ⟨f0,λf hf=>h1 f hf⟩,h2,d⟩
def sq(C:Nat->Option aE)(b:AC)(Q:Ex->Env->Hf->K->Prop):Ex->Env->Hf->K->Prop
 | .normal,E,h,n=>WC C b E h n Q
 | .exit i,E,h,n=>Q (.exit i) E h n
 | .ret,E,h,n=>Q .ret E h n
 | .panic v,E,h,n=>Q (.panic v) E h n
def φ{a b:AC}(d:WC C a E h n (sq C b Q)):WC C (.seq a b) E h n Q:=by
 intro T H e g;obtain⟨r,E',⟨f0,h1⟩,h2,c⟩:=d T H e g;obtain⟨ex,T',v,H',n'⟩:=r;cases ex with
 | normal=>
  obtain⟨r,XW,⟨f1,j⟩,k,l⟩:=c T' H' h2 rfl;refine⟨r,XW,eS.step ⟨max f0 f1,λf hf=>?_⟩,k,l⟩;simp only[aS];rw[h1 f (by omega)];exact j f (by omega)
 | exit i=>
  refine⟨_,E',eS.step ⟨f0,λf hf=>?_⟩,h2,c⟩;simp only[aS];rw[h1 f hf]
 | ret=>
  refine⟨_,E',eS.step ⟨f0,λf hf=>?_⟩,h2,c⟩;simp only[aS];rw[h1 f hf]
 | panic u=>
  refine⟨_,E',eS.step ⟨f0,λf hf=>?_⟩,h2,c⟩;simp only[aS];rw[h1 f hf]
def ε{l:List AO}{b:AC}(a:WO C l E h n (λE h n=>WC C b E h n Q)):WC C (.seq (.reg l) b) E h n Q:=φ (aP a)
def lA{c:ao}{a b:AC}{x:Bool}(g:ge E c=some (.b x))(ht:x=true->WC C a E h n Q)(hf:x=false->WC C b E h n Q):WC C (.cond c a b) E h n Q:=by
 intro T H d i;cases x with
 | true=>
  obtain⟨r,E',⟨f0,h1⟩,h2,e⟩:=ht rfl T H d i;exact⟨r,E',eS.step ⟨f0,λf hf=>by simp only[aS,d.ge g];exact h1 f hf⟩,h2,e⟩
 | false=>
  obtain⟨r,E',⟨f0,h1⟩,h2,e⟩:=hf rfl T H d i;exact⟨r,E',eS.step ⟨f0,λf hf=>by simp only[aS,d.ge g];exact h1 f hf⟩,h2,e⟩
def ax{c:ao}{a b:AC}{x:Bool}(d:ge E c=some (.b x))(f:x=true)(ht:WC C a E h n Q):WC C (.cond c a b) E h n Q:=
 lA d (λ_=>ht) (λe=>by rw[f]at e;cases e)
def az{c:ao}{a b:AC}{x:Bool}(d:ge E c=some (.b x))(f:x=false)(ht:WC C b E h n Q):WC C (.cond c a b) E h n Q:=
 lA d (λe=>by rw[f]at e;cases e) (λ_=>ht)
def blk(id:Nat)(Q:Ex->Env->Hf->K->Prop):Ex->Env->Hf->K->Prop
 | .exit i,E,h,n=>bif Nat.beq id i then Q .normal E h n else Q (.exit i) E h n
 | .normal,E,h,n=>Q .normal E h n
 | .ret,E,h,n=>Q .ret E h n
 | .panic v,E,h,n=>Q (.panic v) E h n
def aA{id:Nat}{c:AC}(b:WC C c E h n (blk id Q)):WC C (.block id c) E h n Q:=by
 intro T H d e;obtain⟨r,E',⟨f0,h1⟩,h2,a⟩:=b T H d e;obtain⟨ex,T',v,H',n'⟩:=r;cases ex with
 | exit i=>
  cases hb:Nat.beq id i with
  | true=>
   refine⟨⟨.normal,T',v,H',n'⟩,E',eS.step ⟨f0,λf hf=>?_⟩,h2,?_⟩
   ·simp only[aS];rw[h1 f hf];simp only[hb,cond_true]
   ·simp only[blk,hb,cond_true]at a;exact a
  | false=>
   refine⟨⟨.exit i,T',v,H',n'⟩,E',eS.step ⟨f0,λf hf=>?_⟩,h2,?_⟩
   ·simp only[aS];rw[h1 f hf];simp only[hb,cond_false]
   ·simp only[blk,hb,cond_false]at a;exact a
 | normal=>
  refine⟨_,E',eS.step ⟨f0,λf hf=>?_⟩,h2,a⟩;simp only[aS];rw[h1 f hf]
 | ret=>
  refine⟨_,E',eS.step ⟨f0,λf hf=>?_⟩,h2,a⟩;simp only[aS];rw[h1 f hf]
 | panic u=>
  refine⟨_,E',eS.step ⟨f0,λf hf=>?_⟩,h2,a⟩;simp only[aS];rw[h1 f hf]
def aF{c:AC}(b:WC C c E h n (sq C (.loop c) Q)):WC C (.loop c) E h n Q:=by
 intro T H d e;obtain⟨r,E',⟨f0,h1⟩,h2,a⟩:=b T H d e;obtain⟨ex,T',v,H',n'⟩:=r;cases ex with
 | normal=>
  obtain⟨r,XW,⟨f1,g⟩,j,k⟩:=a T' H' h2 rfl;refine⟨r,XW,eS.step ⟨max f0 f1,λf hf=>?_⟩,j,k⟩;simp only[aS];rw[h1 f (by omega)];exact g f (by omega)
 | exit i=>
  refine⟨_,E',eS.step ⟨f0,λf hf=>?_⟩,h2,a⟩;simp only[aS];rw[h1 f hf]
 | ret=>
  refine⟨_,E',eS.step ⟨f0,λf hf=>?_⟩,h2,a⟩;simp only[aS];rw[h1 f hf]
 | panic u=>
  refine⟨_,E',eS.step ⟨f0,λf hf=>?_⟩,h2,a⟩;simp only[aS];rw[h1 f hf]
def δ(a:q E h n):WO C [] E h n q:=λT H b c=>by subst c;exact⟨T,H,n,E,⟨0,λf _=>rfl⟩,b,a⟩
def aaA{ih:cV}{op:A}{T:Tr V}{H:Hp}{v:V}{H':Hp}{n':K}(a:oper ih op T H n=some (v,H',n')):∃T',dG ih op T H n=some ⟨.normal,T',v,H',n'⟩:=by
 unfold oper at a;split at a
 ·rename_i T' v1 H1 n1 he;cases a;exact⟨T',he⟩
 ·cases a
def bW{d:Option K}{op:A}{Δ:Nat}{l:List AO}(hs:SO C op E h n (λv h' n'=>WO C l (gR d v E) h' n' q)):WO C (⟨d,op,none,Δ⟩::l) E h n q:=by intro T H a b;obtain⟨v,H',n',⟨f0,h1⟩,h2⟩:=hs T H a b;obtain⟨T',pd,c,E',⟨f1,e⟩,g,i⟩:=h2 _ H' (a.gR d v) U;refine⟨T',pd,c,E',⟨max f0 f1,λf hf=>?_⟩,g,i⟩;obtain⟨T1,j⟩:=aaA (h1 f (by omega));simp only[fc,want,j];exact e f (by omega)
def ζ{d:Option K}{op:A}{Δ:Nat}{l:List AO}{g:K}{w x:Bool}(c:lk E g=some (.b x))(e:x=w)(hs:WO C (⟨d,op,none,Δ⟩::l) E h n q):WO C (⟨d,op,some (g,w),Δ⟩::l) E h n q:=by intro T H a i;obtain⟨T',H',n',E',⟨f0,h1⟩,h2,j⟩:=hs T H a i;refine⟨T',H',n',E',⟨f0,λf hf=>?_⟩,h2,j⟩;have:=h1 f hf;simp only[fc,want,a _ _ c]at this ⊢;subst e;cases x<;>exact this
def θ{d:Option K}{op:A}{Δ:Nat}{l:List AO}{g:K}{w x:Bool}(c:lk E g=some (.b x))(e:x=!w)(hs:WO C l (gR d (.u []) E) h n q):WO C (⟨d,op,some (g,w),Δ⟩::l) E h n q:=by intro T H a i;obtain⟨T',H',n',E',⟨f0,h1⟩,h2,j⟩:=hs _ H (a.gR d _) i;refine⟨T',H',n',E',⟨f0,λf hf=>?_⟩,h2,j⟩;have:=h1 f hf;subst e;simp only[fc,want,a _ _ c];cases w<;>exact this
def fI{d:Option K}{op:A}{Δ:Nat}{l:List AO}{g:K}{w:Bool}(b:lk E g=some (.u []))(hs:WO C l (gR d (.u []) E) h n q):WO C (⟨d,op,some (g,w),Δ⟩::l) E h n q:=by intro T H a c;obtain⟨T',H',n',E',⟨f0,h1⟩,h2,e⟩:=hs _ H (a.gR d _) c;refine⟨T',H',n',E',⟨f0,λf hf=>?_⟩,h2,e⟩;have:=h1 f hf;simp only[fc,want,a _ _ b];exact this
def jF:List K->List V->Env->Option Env
 | _,[],E=>some E
 | k::ks,v::vs,E=>jF ks vs ((k,v)::E)
 | [],_::_,_=>none
def Pd:∀{ks:List K} {vs:List V} {E E':Env} {T:Tr V},Le E T->jF ks vs E=some E'->∃T',binds ks vs T=some T'/\Le E' T':=by
 intro ks vs
 induction vs generalizing ks with
 | nil=>intro E E' T a he;cases ks<;>(cases he;exact⟨T,rfl,a⟩)
 | cons v vs ih=>
  intro E E' T a he;cases ks with
  | nil=>cases he
  | cons k ks=>exact ih (a.put k v) he
def sW(E:Env)(h:Hf):AR->Option V
 | .t k=>lk E k
 | .cell k agg sz=>match lk E k with
  | some a=>bc h agg sz a
  | none=>none
def qm(E:Env)(h:Hf):List AR->Option (List V)
 | []=>some []
 | r::l=>match sW E h r,qm E h l with
  | some v,some vs=>some (v::vs)
  | _,_=>none
def kA(l:List AR)(E:Env)(h:Hf):Option V:=
 match qm E h l with
 | some [v]=>some v
 | some vs=>some (.u vs)
 | none=>none
def aaB{T:Tr V}{H:Hp}(b:Le E T)(c:H.get=h){r:AR}{v:V}(hv:sW E h r=some v):result T H r=some v:=by
 cases r with
 | t k=>exact b _ _ hv
 | cell k agg sz=>
  simp only[sW]at hv;split at hv
  ·rename_i a d;simp only[result,b _ _ d,EP c];exact hv
  ·cases hv
def aaC{T:Tr V}{H:Hp}(a:Le E T)(b:H.get=h):∀{l:List AR} {vs:List V},qm E h l=some vs->vU T H l=some vs:=by
 intro l
 induction l with
 | nil=>intro vs hv;exact hv
 | cons r l ih=>
  intro vs hv;simp only[qm]at hv;split at hv
  ·rename_i v ws h1 h2;simp only[vU,aaB a b h1,ih h2];exact hv
  ·cases hv
def Pe{T:Tr V}{H:Hp}(a:Le E T)(b:H.get=h){l:List AR}{v:V}(hv:kA l E h=some v):qi l T H=some v:=by
 unfold kA at hv;unfold qi;cases hl:qm E h l with
 | none=>rw[hl]at hv;cases hv
 | some vs=>rw[hl]at hv;rw[aaC a b hl];exact hv
def fq(res:List AR)(Q:V->Hf->K->Prop):Ex->Env->Hf->K->Prop
 | .normal,E,h,n=>∃v,kA res E h=some v/\Q v h n
 | .ret,E,h,n=>∃v,kA res E h=some v/\Q v h n
 | _,_,_,_=>False
def μ.go{g:Nat}{a c l:List V}{af:AF}{Q:V->Hf->K->Prop}(k:C g=some (.go af))(o:jF af.jj (a++(l++c)) []=some E)(p:WC C af.body E h n (fq af.res Q)):μ C (.f g a c) l h n Q:=by
 intro H s;obtain⟨T,m,hle⟩:=Pd (Le.nil .e) o;obtain⟨r,E',⟨f0,h1⟩,h2,b⟩:=p T H hle s;obtain⟨ex,T',v,H',n'⟩:=r;cases ex with
 | normal=>
  obtain⟨v,d,j⟩:=b;refine⟨v,H',n',eS.step ⟨f0,λf hf=>?_⟩,j⟩;simp only[aS,k,m];rw[h1 f hf];simp only[Pe h2 rfl d]
 | ret=>
  obtain⟨v,d,j⟩:=b;refine⟨v,H',n',eS.step ⟨f0,λf hf=>?_⟩,j⟩;simp only[aS,k,m];rw[h1 f hf];simp only[Pe h2 rfl d]
 | exit i=>exact b.elim
 | panic v=>exact b.elim
def μ.pm{g:Nat}{a c l:List V}{p:Pm}{Q:V->Hf->K->Prop}(b:C g=some (.pm p))(hp:∀H:Hp,H.get=h->∃v H' n',Ev.pm p (a++(l++c)) H n=some (v,H',n')/\Q v H'.get n'):μ C (.f g a c) l h n Q:=by intro H d;obtain⟨v,H',n',h1,h2⟩:=hp H d;exact⟨v,H',n',eS.step ⟨0,λf _=>by simp only[aS,b,h1]⟩,h2⟩
end
end
section
abbrev st(bs:List UInt8):V:=.s bs.length (aT bs)
def Pf{a b:List UInt8}(hl:a.length=b.length)(h:aT a=aT b):a=b:=by rw[←HO a,←HO b,hl,h]
def dP(a b:Nat):Nat.beq a b=decide (a=b):=by
 cases h:Nat.beq a b with
 | true=>rw[bY h];simp
 | false=>have:=Nat.ne_of_beq_eq_false h;simp[this]
def jn(a b:Nat):Nat.ble a b=decide (a<=b):=by
 cases h:Nat.ble a b with
 | true=>have:=j4 h;simp[this]
 | false=>
  have:¬ a<=b:=λe=>by rw[gk e]at h;cases h
  simp[this]
def fF(a b:Nat):Nat.blt a b=decide (a<b):=by show Nat.ble (a+1) b=_;rw[jn];rfl
def BU(a b:List UInt8):(Nat.beq a.length b.length&&Nat.beq (aT a) (aT b))=decide (a=b):=by
 rw[dP,dP];by_cases h:a=b
 ·subst h;simp
 ·by_cases hl:a.length=b.length
  ·have:aT a≠aT b:=λe=>h (Pf hl e);simp[hl,this,h]
  ·simp[hl,h]
def H7(bs:List UInt8):∀i,aT bs / 256 ^ i=aT (bs.drop i):=by
 intro i
 induction i generalizing bs with
 | zero=>simp
 | succ i ih=>
  cases bs with
  | nil=>simp[aT]
  | cons b l=>
   rw[iM,eR,←Bw];have hb:b.toNat<256:=b.toNat_lt;have:aT (b::l) / 256=aT l:=by simp only[aT];omega
   rw[this,ih];rfl
def aaD(bs:List UInt8):∀k,aT bs % 256 ^ k=aT (bs.take k):=by
 intro k
 induction k generalizing bs with
 | zero=>simp[aT,Nat.mod_one]
 | succ k ih=>
  cases bs with
  | nil=>simp[aT]
  | cons b l=>
   have hb:b.toNat<256:=b.toNat_lt;simp only[j7,aT];rw[←ih,iM,eR (256 ^ k) 256,Nat.mod_mul];have h1:(b.toNat+256*aT l) % 256=b.toNat:=by omega
   have h2:(b.toNat+256*aT l) / 256=aT l:=by omega
   rw[h1,h2]
def BV(bs:List UInt8){i:Nat}(h:i<bs.length):GW (aT bs) i=bs[i].toNat:=by show(aT bs / 256 ^ i) % 256=_;rw[H7,gL h];have hb:bs[i].toNat<256:=bs[i].toNat_lt;simp only[aT];omega
def aaE(bs:List UInt8)(a b:Nat):BE (aT bs) a b=aT ((bs.drop a).take (b - a)):=by show(aT bs / 256 ^ a) % (256 ^ (b - a))=_;rw[H7,aaD]
def aaF(a b:List UInt8):aT (a++b)=aT a+aT b*256 ^ a.length:=by
 induction a with
 | nil=>simp[aT]
 | cons x l ih=>
  simp only[j8,aT,ih,eh,iM];rw[iO,mj];congr 2;rw[eR 256,jT]
def mJ:IntKind->Int->Prop
 | .i64,n=>-9223372036854775808<=n/\n<=9223372036854775807
 | .u64,n=>0<=n/\n<=18446744073709551615
 | .u32,n=>0<=n/\n<=4294967295
 | .i32,n=>-2147483648<=n/\n<=2147483647
 | .u8,n=>0<=n/\n<=255
 | _,_=>False
def zJ{k:IntKind}{n:Int}(h:mJ k n):wr k n=n:=by
 have:fits k n=true:=by cases k<;>cases n<;>simp only[mJ,Int.ofNat_eq_natCast]at h<;>simp only[fits,jn]<;>simp<;>omega
 simp[wr,this]
def qn(a b:Int):qI a b=decide (a=b):=by cases a<;>cases b<;>simp only[qI,dP,Int.ofNat_eq_natCast]<;>simp<;>omega
def ET(a b:Int):vh a b=decide (a<b):=by cases a<;>cases b<;>simp only[vh,fF,Int.ofNat_eq_natCast]<;>simp<;>omega
def Pg(a b:Int):BD a b=decide (a<=b):=by rw[BD,ET];simp only[←decide_not];congr 1;simp;
def xE(k:IntKind):Nat.beq (kn k) (kn k)=true:=by cases k<;>rfl
section
variable {C:Nat->Option aE}{E:Env}{h:Hf}{n:K}{k:V->Hf->K->Prop}
def mz{op:A}(c:∀ih T H n,dG ih op T H n=match simple op T H n with | some (v,H,n)=>some ⟨.normal,.e,v,H,n⟩ | none=>none)
 (hs:∀T H,Le E T->H.get=h->∃v H' n',simple op T H n=some (v,H',n')/\k v H'.get n'):SO C op E h n k:=by
 intro T H d g;obtain⟨v,H',n',h1,h2⟩:=hs T H d g;refine⟨v,H',n',⟨0,λf _=>?_⟩,h2⟩;unfold oper;rw[c,h1]
def fR{op:A}{v:V}(d:∀ih T H n,dG ih op T H n=match simple op T H n with | some (v,H,n)=>some ⟨.normal,.e,v,H,n⟩ | none=>none)
 (hs:∀T H,Le E T->H.get=h->simple op T H n=some (v,H,n))(f:k v h n):SO C op E h n k:=
 mz d λT H g c=>⟨v,H,n,hs T H g c,by rw[c];exact f⟩
def Ph{x:ao}{v:V}(c:ge E x=some v)(d:k v h n):SO C (.mv x) E h n k:=
 fR (λ_ _ _ _=>rfl) (λT H e f=>by simp only[simple,e.ge c,cU]) d
def Pj{c a b:ao}{x:Bool}{v:V}(e:ge E c=some (.b x))(f:x=true)(g:ge E a=some v)(j:k v h n):SO C (.pick c a b) E h n k:=
 fR (λ_ _ _ _=>rfl) (λT H d l=>by subst f;simp only[simple,d.ge e,cond_true,d.ge g,cU]) j
def Pk{c a b:ao}{x:Bool}{v:V}(e:ge E c=some (.b x))(f:x=false)(g:ge E b=some v)(j:k v h n):SO C (.pick c a b) E h n k:=
 fR (λ_ _ _ _=>rfl) (λT H d l=>by subst f;simp only[simple,d.ge e,cond_false,d.ge g,cU]) j
def lB{op:BinOp}{q:dR}{x y:ao}{a b v:V}(d:ge E x=some a)(e:ge E y=some b)(hv:mq op q a b=some v)(f:k v h n):SO C (.bin op q x y) E h n k:=
 fR (λ_ _ _ _=>rfl) (λT H c g=>by simp only[simple,c.ge d,c.ge e,hv,cU]) f
section
variable {q:dR}{x y:ao}{i:IntKind}{a b:Int}
def rj{op:BinOp}(h1:op≠.shl)(h2:op≠.shr):mq op q (.i i a) (.i i b)=mZ op i a b:=by cases op<;>first | contradiction | (simp only[mq,xE,cond_true])
def Pn(c:ge E x=some (.i i a))(d:ge E y=some (.i i b))(e:mJ i (a+b))(f:k (.i i (a+b)) h n):SO C (.bin .add q x y) E h n k:=
 lB c d (by rw[rj (by simp) (by simp)];show some (V.i i (wr i (a+b)))=_;rw[zJ e]) f
def Po(c:ge E x=some (.i i a))(d:ge E y=some (.i i b))(e:mJ i (a - b))(f:k (.i i (a - b)) h n):SO C (.bin .sub q x y) E h n k:=
 lB c d (by rw[rj (by simp) (by simp)];show some (V.i i (wr i (a - b)))=_;rw[zJ e]) f
def Pp(c:ge E x=some (.i i a))(d:ge E y=some (.i i b))(e:mJ i (a*b))(f:k (.i i (a*b)) h n):SO C (.bin .mul q x y) E h n k:=
 lB c d (by rw[rj (by simp) (by simp)];show some (V.i i (wr i (a*b)))=_;rw[zJ e]) f
def Pq{a b:Nat}(c:ge E x=some (.i i a))(d:ge E y=some (.i i b))(hb:0<b)(e:mJ i ((a / b:Nat):Int))(f:k (.i i ((a / b:Nat):Int)) h n):SO C (.bin .quo q x y) E h n k:=
 lB c d (by
  rw[rj (by simp) (by simp)];have h0:qI (b:Int) 0=false:=by rw[qn];simp;omega
  have h1:Int.tdiv (a:Int) (b:Int)=((a / b:Nat):Int):=by simp
  simp only[mZ,h0,cond_false,h1,zJ e]) f
def Pt{a b:Nat}(c:ge E x=some (.i i a))(d:ge E y=some (.i i b))(hb:0<b)(e:k (.i i ((a % b:Nat):Int)) h n):SO C (.bin .rem q x y) E h n k:=
 lB c d (by
  rw[rj (by simp) (by simp)];have h0:qI (b:Int) 0=false:=by rw[qn];simp;omega
  have h1:Int.tmod (a:Int) (b:Int)=((a % b:Nat):Int):=Int.ofNat_tmod a b;simp only[mZ,h0,cond_false,h1]) e
def Pu(c:ge E x=some (.i i a))(d:ge E y=some (.i i b))(e:k (.b (decide (a=b))) h n):SO C (.bin .eql q x y) E h n k:=
 lB c d (by rw[rj (by simp) (by simp)];simp only[mZ,qn]) e
def Pv(c:ge E x=some (.i i a))(d:ge E y=some (.i i b))(e:k (.b (!decide (a=b))) h n):SO C (.bin .neq q x y) E h n k:=
 lB c d (by rw[rj (by simp) (by simp)];simp only[mZ,qn]) e
def aaG(c:ge E x=some (.i i a))(d:ge E y=some (.i i b))(e:k (.b (decide (a<b))) h n):SO C (.bin .lss q x y) E h n k:=
 lB c d (by rw[rj (by simp) (by simp)];simp only[mZ,ET]) e
def aaH(c:ge E x=some (.i i a))(d:ge E y=some (.i i b))(e:k (.b (decide (a<=b))) h n):SO C (.bin .leq q x y) E h n k:=
 lB c d (by rw[rj (by simp) (by simp)];simp only[mZ,Pg]) e
def Pw(c:ge E x=some (.i i a))(d:ge E y=some (.i i b))(e:k (.b (decide (b<a))) h n):SO C (.bin .gtr q x y) E h n k:=
 lB c d (by rw[rj (by simp) (by simp)];simp only[mZ,ET]) e
def Px(c:X.ge E x=some (.i i a))(d:ge E y=some (.i i b))(e:k (.b (decide (b<=a))) h n):SO C (.bin .geq q x y) E h n k:=
 lB c d (by rw[rj (by simp) (by simp)];simp only[mZ,Pg]) e
def Py{j:IntKind}(c:X.ge E x=some (.i i a))(d:mJ j a)(e:k (.i j a) h n):SO C (.cv (.toInt j) x) E h n k:=
 fR (λ_ _ _ _=>rfl) (λT H f g=>by simp only[simple,f.ge c,qJ,zJ d]) e
end
def Pz{x:ao}{b:Bool}(c:ge E x=some (.b b))(d:k (.b (!b)) h n):SO C (.un .not x) E h n k:=
 fR (λ_ _ _ _=>rfl) (λT H e f=>by simp only[simple,e.ge c,HG,cU]) d
def aaI{x y:ao}{a b:Bool}(c:X.ge E x=some (.b a))(d:X.ge E y=some (.b b))(e:k (.b (a==b)) h n):SO C (.bin .eql (.one .bool) x y) E h n k:=
 lB c d rfl e
def aaJ{x y:ao}{a b:Bool}(c:X.ge E x=some (.b a))(d:X.ge E y=some (.b b))(e:k (.b (!(a==b))) h n):SO C (.bin .neq (.one .bool) x y) E h n k:=
 lB c d rfl e
section
variable {q:dR}{x y:ao}{a b:List UInt8}
def PD(c:ge E x=some (st a))(d:ge E y=some (st b))(e:k (.b (decide (a=b))) h n):SO C (.bin .eql q x y) E h n k:=
 lB c d (by show some (V.b (_&&_))=_;rw[BU]) e
def PE(c:ge E x=some (st a))(d:ge E y=some (st b))(e:k (.b (!decide (a=b))) h n):SO C (.bin .neq q x y) E h n k:=
 lB c d (by show some (V.b (!(_&&_)))=_;rw[BU]) e
def aaK(c:ge E x=some (st a))(d:ge E y=some (st b))(hl:a.length+b.length<=9223372036854775807)(e:k (st (a++b)) h n):SO C (.bin .add q x y) E h n k:=
 lB c d (by
  show(bif Nat.ble (a.length+b.length) _ then some (V.s (a.length+b.length) (aT a+aT b*256 ^ a.length)) else none)=_
  rw[gk hl,cond_true,st,jz,aaF]) e
def aaL(c:ge E x=some (st a))(d:k (.i .i64 (a.length:Nat)) h n):SO C (.len 0 x) E h n k:=
 fR (λ_ _ _ _=>rfl) (λT H e f=>by simp only[simple,e.ge c];rfl) d
def PF{i:IntKind}{j:Nat}(d:ge E x=some (st a))(e:ge E y=some (.i i (j:Nat)))(hj:j<a.length)(f:k (.i .u8 (a[j].toNat:Nat)) h n):SO C (.idx none x y) E h n k:=
 fR (λ_ _ _ _=>rfl) (λT H c l=>by
  have h1:=c.ge d;have h2:=c.ge e;have g:Nat.blt j a.length=true:=by rw[fF];simpa using hj
  simp only[simple,h1,h2];show(bif Nat.blt j a.length then _ else _)=_
  rw[g,cond_true,BV a hj];rfl) f
end
def bd(E:Env)(d:Nat):Option ao->Option Nat
 | none=>some d
 | some x=>match ge E x with | some v=>HH v | none=>none
def Le.bd{T:Tr V}(e:Le E T){d:Nat}{x:Option ao}{m:Nat}(c:X.bd E d x=some m):cL T d x=some m:=by
 cases x with
 | none=>exact c
 | some x=>
  simp only[X.bd]at c;split at c
  ·rename_i v hv;simp only[cL,e.ge hv];exact c
  ·cases c
def PG{x:ao}{lo hi:Option ao}{a:List UInt8}{i j:Nat}(d:ge E x=some (st a))(e:bd E 0 lo=some i)(f:bd E a.length hi=some j)(h1:i<=j)(h2:j<=a.length)
 (g:k (st ((a.drop i).take (j - i))) h n):SO C (.sli .str x lo hi none) E h n k:=
 fR (λ_ _ _ _=>rfl) (λT H c t=>by
  have l:=c.ge d;have m:=c.bd e;have o:=c.bd f;simp only[simple,l];show cU H n (lP .str T (.s a.length (aT a)) lo hi none)=_;have p:Nat.ble i j=true:=by rw[jn];simpa using h1
  have r:Nat.ble j a.length=true:=by rw[jn];simpa using h2
  simp only[lP,m,o,p,r,iX,cond_true,cU,aaE];have:Nat.sub j i=((a.drop i).take (j - i)).length:=by simp;show j - i=_;omega
  rw[this]) g
def PH{x:ao}{i:Nat}{l:List V}{v:V}(c:ge E x=some (.u l))(hv:nth l i=some v)(d:k v h n):SO C (.ext x i) E h n k:=
 fR (λ_ _ _ _=>rfl) (λT H e f=>by simp only[simple,e.ge c,hv,cU]) d
def aaM{x:ao}{o sz:Nat}{l:List V}{v:V}(c:ge E x=some (.a l))(hv:nth l o=some v)(d:k v h n):SO C (.fld false o sz x) E h n k:=
 fR (λ_ _ _ _=>rfl) (λT H e f=>by simp only[simple,e.ge c,hv,cU,cond_false]) d
def iQ(E:Env)(zs:List V):List (Nat×Nat×ao)->Option (List V)
 | []=>some zs
 | (o,sz,x)::ps=>match ge E x with
  | some v=>bif Nat.beq v.cells.length sz&&aB v.cells then (match cJ v.cells zs o with | some c=>iQ E c ps | none=>none) else none
  | none=>none
def Le.fill{T:Tr V}(c:Le E T):∀{ps:List (Nat×Nat×ao)} {zs l:List V},iQ E zs ps=some l->qh T zs ps=some l:=by
 intro ps
 induction ps with
 | nil=>intro zs l hl;exact hl
 | cons p ps ih=>
  intro zs l hl;obtain⟨o,sz,x⟩:=p;simp only[iQ]at hl;split at hl
  ·rename_i v hv;simp only[qh,c.ge hv];cases hb:(Nat.beq v.cells.length sz&&aB v.cells) with
   | false=>rw[hb]at hl;cases hl
   | true=>
    rw[hb]at hl;simp only[cond_true]at hl ⊢;split at hl
    ·rename_i e d;first | exact ih hl | (simp only[d];exact ih hl)
    ·cases hl
  ·cases hl
def PI{zs l:List V}{ps:List (Nat×Nat×ao)}(hl:iQ E zs ps=some l)(c:k (.a l) h n):SO C (.bld zs ps) E h n k:=
 fR (λ_ _ _ _=>rfl) (λT H d e=>by simp only[simple,d.fill hl]) c
def PJ{f:Nat}{a c:List ao}{bZ cs:List V}(e:sc E a=some bZ)(g:sc E c=some cs)(j:k (.f f bZ cs) h n):SO C (.mfn f a c) E h n k:=
 fR (λ_ _ _ _=>rfl) (λT H d l=>by simp only[simple,d.sc e,d.sc g]) j
def aaN{x:ao}{b:K}{o:Nat}(c:ge E x=some (.p b o))(d:k (.p b o) h n):SO C (.nck x) E h n k:=
 fR (λ_ _ _ _=>rfl) (λT H e f=>by simp only[simple,e.ge c]) d
def PL{x y:ao}{i:IntKind}{a b:Int}(e:X.ge E x=some (.i i a))(f:X.ge E y=some (.i i b))(g:k (.i i (max a b)) h n):SO C (.mm true [x,y]) E h n k:=
 fR (λ_ _ _ _=>rfl) (λT H c j=>by
  simp only[simple,eZ,c.ge e,c.ge f,zA,MV,cond_true,cU,ET];congr 3;by_cases d:a<b
  ·simp[d];omega
  ·simp[d];omega) g
def PM{f:ao}{l:List ao}{c:V}{vs:List V}(hf:ge E f=some c)(hl:sc E l=some vs)(e:μ C c vs h n k):SO C (.lO f l) E h n k:=by intro T H d g;obtain⟨v,H',n',⟨f0,h1⟩,h2⟩:=e H g;refine⟨v,H',n',⟨f0,λf j=>?_⟩,h2⟩;simp only[oper,dG,d.ge hf,d.sc hl,h1 f j]
end
end
section
def Ext(h:Hf)(n:K)(h':Hf)(n':K):Prop:=n.num<=n'.num/\∀k:K,k.num<n.num->h' k=h k
def Ext.refl(h:Hf)(n:K):Ext h n h n:=⟨ξ _,λ_ _=>rfl⟩
def Ext.trans{h h1 h2:Hf}{n n1 c:K}(a:Ext h n h1 n1)(b:Ext h1 n1 h2 c):Ext h n h2 c:=
 ⟨eF a.1 b.1,λk d=>by rw[b.2 k (eE d a.1),a.2 k d]⟩
def Ext.trans'{h h1 h2:Hf}{n n1 b:K}(a:Ext h n h1 n1)(b1:n1.num<=b.num)(b2:∀k:K,k.num<n.num->h2 k=h1 k):Ext h n h2 b:=
 ⟨eF a.1 b1,λk c=>by rw[b2 k c,a.2 k c]⟩
def Ext.new{h h1:Hf}{n n1:K}(a:Ext h n h1 n1)(o:Option O):Ext h n (hp h1 n1 o) n1.succ:=
 ⟨by rw[K.eI];have:=a.1;omega,λk b=>by rw[mu _ _ (λe=>by subst e;have:=a.1;omega),a.2 k b]⟩
def Ext.succ{h h1:Hf}{n n1:K}(a:Ext h n h1 n1):Ext h n h1 n1.succ:=⟨by rw[K.eI];have:=a.1;omega,a.2⟩
def Ext.row{h h':Hf}{n n':K}(a:Ext h n h' n'){b:K}(hb:b.num<n.num):iP h' b=iP h b:=by unfold iP;rw[a.2 b hb]
def Ext.ld{h h':Hf}{n n':K}(a:Ext h n h' n'){b:K}(hb:b.num<n.num)(agg:Bool)(sz o:Nat):bc h' agg sz (.p b o)=bc h agg sz (.p b o):=by simp only[bc,a.row hb]
def qo{a b:K}(h:a.num≠b.num):a≠b:=λe=>h (by rw[e])
def aaO(h:Hf)(b:K)(o:O):iP (hp h b (some o)) b=o.row:=by simp[iP,eJ]
section
variable {C:Nat->Option aE}{E:Env}{h:Hf}{n:K}{k:V->Hf->K->Prop}
def zK{op:A}{o:O}{v:V}(b:∀ih T H n,dG ih op T H n=match simple op T H n with | some (v,H,n)=>some ⟨.normal,.e,v,H,n⟩ | none=>none)
 (hs:∀T H,Le E T->H.get=h->simple op T H n=jD H n o v)(c:k v (hp h n (some o)) n.succ):SO C op E h n k:=
 mz b λT H d a=>⟨v,H.put (some o) n,n.succ,hs T H d a,by rw[fE,a];exact c⟩
def aaP{e:Nat}{zs:List V}(a:k (.p n 0) (hp h n (some (.c zs e 0))) n.succ):SO C (.new e zs) E h n k:=
 zK (λ_ _ _ _=>rfl) (λT H b d=>rfl) a
def aaQ{e:Nat}{x:ao}{v:V}{cs:List V}(a:ge E x=some v)(b:v.cells=cs)(d:aB cs=true)(f:k (.p n 0) (hp h n (some (.c cs e 0))) n.succ):SO C (.box e x) E h n k:=
 zK (λ_ _ _ _=>rfl) (λT H g i=>by simp only[simple,g.ge a,b,d,cond_true]) f
def aaR{e len:Nat}{zs l:List V}{ps:List (Nat×Nat×ao)}(hl:iQ E zs ps=some l)(a:k (.sl n 0 len len) (hp h n (some (.c l e 0))) n.succ):SO C (.bsl e zs len ps) E h n k:=
 zK (λ_ _ _ _=>rfl) (λT H b d=>by simp only[simple,b.fill hl]) a
def aaS{e esz bytes m:Nat}{z:List V}{x y:ao}{i j:IntKind}(b:ge E x=some (.i i (m:Nat)))(d:ge E y=some (.i j (m:Nat)))(hb:m*bytes<=140737488355328)(f:m<=9223372036854775807)
 (g:k (.sl n 0 m m) (hp h n (some (.c (dS z m) e 0))) n.succ):SO C (.msl e esz bytes z x y) E h n k:=
 zK (λ_ _ _ _=>rfl) (λT H a l=>by
  simp only[simple,a.ge b,a.ge d];show(bif Nat.ble m m&&Nat.ble (m*bytes) 140737488355328&&Nat.ble m 9223372036854775807 then _ else _)=_
  rw[gk (ξ m),gk hb,gk f];rfl) g
def aaT{agg:Bool}{sz:Nat}{a:ao}{p v:V}(b:ge E a=some p)(hv:bc h agg sz p=some v)(c:k v h n):SO C (.ld agg sz a) E h n k:=
 fR (λ_ _ _ _=>rfl) (λT H d e=>by simp only[simple,d.ge b,EP e,hv,cU]) c
def PN{o off:Nat}{x:ao}{b:K}(a:ge E x=some (.p b o))(c:k (.p b (o+off)) h n):SO C (.fad off x) E h n k:=
 fR (λ_ _ _ _=>rfl) (λT H d e=>by simp only[simple,d.ge a];rfl) c
def lT(l:List V)(fz o sz:Nat)(v:V):Option (List V):=
 bif Nat.beq v.cells.length sz&&(Nat.ble fz o&&aB v.cells) then cJ v.cells l o else none
def aaU{sz:Nat}{a x:ao}{b:K}{o e fz:Nat}{l l':List V}{v:V}(g:ge E a=some (.p b o))(i:ge E x=some v)(hb:h b=some (.c l e fz))(hl:lT l fz o sz v=some l')
 (j:k (.u []) (hp h b (some (.c l' e fz))) n):SO C (.st sz a x) E h n k:=
 mz (λ_ _ _ _=>rfl) λT H d f=>by
  refine⟨.u [],H.put (some (.c l' e fz)) b,n,?_,by rw[fE,f];exact j⟩;unfold lT at hl;cases h1:Nat.beq v.cells.length sz with
  | false=>rw[h1]at hl;cases hl
  | true=>
   rw[h1]at hl;cases h2:(Nat.ble fz o&&aB v.cells) with
   | false=>rw[h2]at hl;cases hl
   | true=>
    rw[h2]at hl;simp only[iX,cond_true]at hl;have m:H.get b=some (.c l e fz):=by rw[f];exact hb
    simp only[simple,d.ge g,d.ge i,AN,h1,cond_true,gq,m,h2,hl,oZ]
def _root_.Go.Ev.V.blk:V->K
 | .sl b _ _ _ | .su b _ _ _=>b
 | _=>.h
def _root_.Go.Ev.V.off:V->Nat
 | .sl _ o _ _ | .su _ o _ _=>o
 | _=>0
def κ(h:Hf)(n:K)(z:Nat)(v:V)(len:Nat)(cs:List V):Prop:=
 cs.length=len*z/\((v=.ns/\len=0)\/((∃b o c,((v=.sl b o len c/\len<=c)\/v=.su b o len z)/\b.num<n.num)/\∃row,iP h v.blk=some row/\cw row v.off (len*z)=some cs))
def κ.ns(h:Hf)(n:K)(z:Nat):κ h n z .ns 0 []:=⟨by simp,Or.inl ⟨rfl,rfl⟩⟩
def κ.ext{h h':Hf}{n n':K}{z:Nat}{v:V}{len:Nat}{cs:List V}(a:κ h n z v len cs)(e:Ext h n h' n'):κ h' n' z v len cs:=by
 obtain⟨h1,h2⟩:=a;refine⟨h1,h2.imp id λ⟨⟨b,o,c,d,f⟩,row,g,i⟩=>⟨⟨b,o,c,d,eE f e.1⟩,row,?_,i⟩⟩;have:v.blk=b:=by cases d with | inl e=>rw[e.1];rfl | inr e=>rw[e];rfl
 rw[e.row (by rw[this];exact f)];exact g
def κ.xF{h:Hf}{n:K}{z:Nat}{v:V}{len:Nat}{cs:List V}(a:κ h n z v len cs)(hl:0<len):v.blk.num<n.num:=by
 obtain⟨h1,h2⟩:=a;cases h2 with
 | inl h=>omega
 | inr h=>obtain⟨⟨b,o,c,f,d⟩,_⟩:=h;cases f with | inl e=>rw[e.1];exact d | inr e=>rw[e];exact d
def κ.one{h:Hf}{n:K}{z:Nat}{v:V}{len:Nat}{cs:List V}(a:κ h n z v len cs):v.one=true:=by
 obtain⟨h1,h2⟩:=a;cases h2 with
 | inl h=>rw[h.1];rfl
 | inr h=>obtain⟨⟨b,o,c,d,f⟩,_⟩:=h;cases d with | inl e=>rw[e.1];rfl | inr e=>rw[e];rfl
def κ.cells{h:Hf}{n:K}{z:Nat}{v:V}{len:Nat}{cs:List V}(a:κ h n z v len cs):v.cells=[v]:=by
 obtain⟨h1,h2⟩:=a;cases h2 with
 | inl h=>rw[h.1];rfl
 | inr h=>obtain⟨⟨b,o,c,d,f⟩,_⟩:=h;cases d with | inl e=>rw[e.1];rfl | inr e=>rw[e];rfl
def ug{α:Type}{l:List α}{o m:Nat}(hl:o+m<=l.length):cw l o m=some ((l.drop o).take m):=by
 have h1:∀(o:Nat) (l:List α),o<=l.length->mn o l=some (l.drop o):=by
  intro o
  induction o with
  | zero=>intro l _;rfl
  | succ o ih=>intro l hl;cases l with
   | nil=>simp at hl
   | cons a l=>exact ih l (by simpa using hl)
 have h2:∀(m:Nat) (l:List α),m<=l.length->takeN m l=some (l.take m):=by
  intro m
  induction m with
  | zero=>intro l _;simp[takeN]
  | succ m ih=>intro l hl;cases l with
   | nil=>simp at hl
   | cons a l=>simp only[takeN,ih l (by simpa using hl),j7]
 unfold cw;rw[h1 o l (by omega)];exact h2 m _ (by simp;omega)
def PO{α:Type}{l cs:List α}{o m i j:Nat}(hs:cw l o m=some cs)(a:i+j<=m):cw l (o+i) j=some ((cs.drop i).take j):=by obtain⟨e,hl⟩:=nj hs;rw[ug (by omega),e,List.drop_take,List.take_take,List.drop_drop];congr 2;omega
def PQ{α:Type}{l cs:List α}{o m i:Nat}(hs:cw l o m=some cs)(hi:i<m):nth l (o+i)=nth cs i:=by obtain⟨e,hl⟩:=nj hs;rw[oB,oB,e,List.getElem?_take,ab hi,vP]
def κ.get{z:Nat}{v:V}{len:Nat}{cs:List V}(a:κ h n z v len cs){i:Nat}{w:V}(hi:nth cs i=some w)(sz:Nat):bc h false sz (.p v.blk (v.off+i))=some w:=by
 obtain⟨h1,h2⟩:=a;have b:i<cs.length:=by rw[oB]at hi;exact(cZ.1 hi).1
 cases h2 with
 | inl h=>rw[h1,h.2]at b;omega
 | inr h=>
  obtain⟨_,row,c,d⟩:=h;simp only[bc,c,cond_false];rw[PQ d (by omega)];exact hi
def κ.jG{z:Nat}{v:V}{len:Nat}{cs:List V}(a:κ h n z v len cs){i sz:Nat}(hi:i+sz<=len*z)(d:0<len):bc h true sz (.p v.blk (v.off+i))=some (.a ((cs.drop i).take sz)):=by
 obtain⟨h1,h2⟩:=a;cases h2 with
 | inl h=>omega
 | inr h=>
  obtain⟨_,row,b,c⟩:=h;simp only[bc,b,cond_true,PO c hi]
def aaV{z:Nat}{x:ao}{v:V}{len:Nat}{cs:List V}{h0:Hf}{n0:K}(f:ge E x=some v)(a:κ h0 n0 z v len cs)(g:k (.i .i64 (len:Nat)) h n):SO C (.len 1 x) E h n k:=
 fR (λ_ _ _ _=>rfl) (λT H j m=>by
  have e:=j.ge f;obtain⟨h1,h2⟩:=a;cases h2 with
  | inl h=>rw[h.1]at e;simp only[simple,e,h.2];rfl
  | inr h=>
   obtain⟨⟨b,o,c,l,p⟩,_⟩:=h;cases l with
   | inl d=>replace d:=d.1;rw[d]at e;simp only[simple,e];rfl
   | inr d=>rw[d]at e;simp only[simple,e];rfl) g
def PS{z:Nat}{x y:ao}{v:V}{len i:Nat}{j:IntKind}{cs:List V}{h0:Hf}{n0:K}(m:ge E x=some v)(q:ge E y=some (.i j (i:Nat)))(a:κ h0 n0 z v len cs)(hi:i<len)
 (r:k (.p v.blk (v.off+i*z)) h n):SO C (.iad none z x y) E h n k:=
 fR (λ_ _ _ _=>rfl) (λT H f t=>by
  have e:=f.ge m;have g:aq T y=some (.i j (Int.ofNat i)):=f.ge q;have l:Nat.blt i len=true:=by rw[fF];simpa using hi
  obtain⟨h1,h2⟩:=a;cases h2 with
  | inl h=>omega
  | inr h=>
   obtain⟨⟨b,o,c,s,u⟩,_⟩:=h;cases s with
   | inl d=>replace d:=d.1;rw[d]at e;simp only[simple,e,g,l,cond_true,d];rfl
   | inr d=>rw[d]at e;simp only[simple,e,g,l,cond_true,d];rfl) r
def uh(T:Tr V)(d:Nat):cL T d none=some d:=rfl
def PT{z:Nat}{x:ao}{lo hi:Option ao}{v:V}{len i j:Nat}{cs:List V}(r:ge E x=some v){n0:K}(a:κ h n0 z v len cs)(s:bd E 0 lo=some i)(t:bd E len hi=some j)(h1:i<=j)(h2:j<=len)
 (u:∀v',κ h n0 z v' (j - i) ((cs.drop (i*z)).take ((j - i)*z))->(v'.len=j - i/\v'.blk=v.blk/\(v=.ns->v'=.ns))->k v' h n):SO C (.sli (.sl z) x lo hi none) E h n k:=by
 obtain⟨g1,I⟩:=a;have hm:i*z+(j - i)*z<=len*z:=by rw[←ie];exact gE z (by omega)
 have hlen:((cs.drop (i*z)).take ((j - i)*z)).length=(j - i)*z:=by simp;omega
 cases I with
 | inl g=>
  have y:i=0:=by omega
  have A:j=0:=by omega
  refine fR (v:=.ns) (λ_ _ _ _=>rfl) (λT H f B=>?_) (u .ns ⟨hlen,Or.inl ⟨rfl,by omega⟩⟩ ⟨by subst y;subst A;rfl,by rw[g.1],λ_=>rfl⟩);have e:=f.ge r;have m:=f.bd s;have l:=f.bd t;rw[g.1]at e;rw[g.2]at l;subst y;subst A;simp only[simple,e,lP,m,l,uh,cU]
 | inr g=>
  obtain⟨⟨b,o,c,d,D⟩,row,q,F⟩:=g;have p:cw row (v.off+i*z) ((j - i)*z)=some ((cs.drop (i*z)).take ((j - i)*z)):=PO F hm;cases d with
  | inl d=>
   obtain⟨d,L⟩:=d;have w:(bif Nat.beq c i then o else Nat.add o (Nat.mul i z))=o+i*z\/j - i=0:=by
    cases hb:Nat.beq c i with
    | true=>right;have:=bY hb;omega
    | false=>left;rfl
   refine fR (v:=.sl b (bif Nat.beq c i then o else Nat.add o (Nat.mul i z)) (j - i) (c - i)) (λ_ _ _ _=>rfl) (λT H f B=>?_) (u _ ⟨hlen,Or.inr ⟨⟨b,_,_,Or.inl ⟨rfl,by omega⟩,D⟩,row,?_,?_⟩⟩ ⟨rfl,by rw[d];rfl,λe=>by rw[d]at e;cases e⟩)
   ·have e:=f.ge r;have m:=f.bd s;have l:=f.bd t;rw[d]at e;have b1:Nat.ble i j=true:=gk h1;have b2:Nat.ble j c=true:=gk (by omega);have b3:Nat.ble c c=true:=gk (ξ c);simp only[simple,e,lP,m,l,uh,b1,b2,b3,iX,cond_true,cU];rfl
   ·rw[d]at q;exact q
   ·rw[d]at p;cases w with
    | inl w=>show cw row (bif Nat.beq c i then o else Nat.add o (Nat.mul i z)) _=_;rw[w];exact p
    | inr h0=>
     have G:=(nj F).2;rw[h0];simp only[Nat.zero_mul,List.take_zero];show cw row (bif Nat.beq c i then o else Nat.add o (Nat.mul i z)) 0=some []
     rw[d]at G;have M:o<=row.length:=by have:(V.sl b o len c).off=o:=rfl;rw[this]at G;omega
     cases hb:Nat.beq c i with
     | true=>rw[cond_true,ug (by omega)];simp
     | false=>
      have J:=(nj p).2;have:(V.sl b o len c).off=o:=rfl;rw[this]at J;rw[cond_false,ug (by show o+i*z+0<=_;omega)];simp
  | inr d=>
   refine fR (v:=.su b (o+i*z) (j - i) z) (λ_ _ _ _=>rfl) (λT H f B=>?_) (u _ ⟨hlen,Or.inr ⟨⟨b,_,0,Or.inr U,D⟩,row,?_,?_⟩⟩ ⟨rfl,by rw[d];rfl,λe=>by rw[d]at e;cases e⟩)
   ·have e:=f.ge r;have m:=f.bd s;have l:=f.bd t;rw[d]at e;have b1:Nat.ble i j=true:=gk h1;have b2:Nat.ble j len=true:=gk h2;have b3:Nat.beq z z=true:=by rw[dP];simp
    simp only[simple,e,lP,m,l,uh,b1,b2,b3,iX,cond_true,cU];rfl
   ·rw[d]at q;exact q
   ·rw[d]at p;exact p
def aaY{z:Nat}{x hi mx:ao}{v:V}{len:Nat}{cs:List V}{A B:IntKind}(r:ge E x=some v){n0:K}(a:κ h n0 z v len cs)(D:ge E hi=some (.i A (len:Nat)))(F:ge E mx=some (.i B (len:Nat)))
 (s:∀v',κ h n0 z v' len cs->(v'.len=len/\v'.blk=v.blk/\(v=.ns->v'=.ns))->k v' h n):SO C (.sli (.sl z) x none (some hi) (some mx)) E h n k:=by
 obtain⟨g1,G⟩:=a;have l:∀{T:Tr V},Le E T->∀d,cL T d (some hi)=some len:=λj d=>j.bd (by simp only[bd,D];rfl);have m:∀{T:Tr V},Le E T->∀d,cL T d (some mx)=some len:=λj d=>j.bd (by simp only[bd,F];rfl);have b3:Nat.ble len len=true:=gk (ξ len);have t:Nat.ble 0 len=true:=gk (oy len);cases G with
 | inl g=>
  refine fR (v:=.ns) (λ_ _ _ _=>rfl) (λT H j u=>?_) (s .ns ⟨g1,Or.inl ⟨rfl,g.2⟩⟩ ⟨by rw[g.2];rfl,by rw[g.1],λ_=>rfl⟩);have e:=j.ge r;rw[g.1]at e;have l:=l j;have m:=m j;rw[g.2]at l m;simp only[simple,e,lP,l,m,uh,cU]
 | inr g=>
  obtain⟨⟨b,o,c,f,w⟩,row,p,q⟩:=g;cases f with
  | inl f=>
   obtain⟨f,I⟩:=f;have y:(bif Nat.beq len 0 then o else Nat.add o (Nat.mul 0 z))=o:=by
    cases Nat.beq len 0 with
    | true=>rfl
    | false=>show o+0*z=o;omega
   refine fR (v:=.sl b o len len) (λ_ _ _ _=>rfl) (λT H j u=>?_) (s _ ⟨g1,Or.inr ⟨⟨b,_,_,Or.inl ⟨rfl,by omega⟩,w⟩,row,?_,?_⟩⟩ ⟨rfl,by rw[f];rfl,λe=>by rw[f]at e;cases e⟩)
   ·have e:=j.ge r;rw[f]at e;have b2:Nat.ble len c=true:=gk I;simp only[simple,e,lP,l j,m j,uh,t,b2,b3,iX,cond_true,cU,y];rfl
   ·rw[f]at p;exact p
   ·rw[f]at q;exact q
  | inr f=>
   have b4:Nat.beq z z=true:=by rw[dP];simp
   by_cases hl:len=0
   ·subst hl;refine fR (v:=.su b o 0 z) (λ_ _ _ _=>rfl) (λT H j u=>?_) (s _ ⟨g1,Or.inr ⟨⟨b,_,0,Or.inr U,w⟩,row,?_,?_⟩⟩ ⟨rfl,by rw[f],λe=>by rw[f]at e;cases e⟩)
    ·have e:=j.ge r;rw[f]at e;simp only[simple,e,lP,l j,m j,uh,t,b4,iX,cond_true,cU];rfl
    ·rw[f]at p;exact p
    ·rw[f]at q;exact q
   ·have b5:Nat.beq len 0=false:=by rw[dP];simp[hl]
    have y:Nat.add o (Nat.mul 0 z)=o:=by show o+0*z=o;omega
    refine fR (v:=.sl b o len len) (λ_ _ _ _=>rfl) (λT H j u=>?_) (s _ ⟨g1,Or.inr ⟨⟨b,_,_,Or.inl ⟨rfl,by omega⟩,w⟩,row,?_,?_⟩⟩ ⟨rfl,by rw[f];rfl,λe=>by rw[f]at e;cases e⟩)
    ·have e:=j.ge r;rw[f]at e;simp only[simple,e,lP,l j,m j,uh,t,b3,b4,b5,iX,cond_true,cond_false,cU,y];rfl
    ·rw[f]at p;exact p
    ·rw[f]at q;exact q
def κ.elems{z:Nat}{v:V}{len:Nat}{cs:List V}(a:κ h n z v len cs){H:Hp}(l:H.get=h):elems H z v=some (len,cs):=by
 obtain⟨g1,m⟩:=a;have b4:Nat.beq z z=true:=by rw[dP];simp
 cases m with
 | inl g=>
  have:cs=[]:=by rw[g.2]at g1;simpa using g1
  rw[g.1,g.2,this];rfl
 | inr g=>
  obtain⟨⟨b,o,c,d,p⟩,row,f,i⟩:=g;cases d with
  | inl d=>
   rw[d.1]at f i;have e:rowAt H b=some row:=by rw[Pc l];exact f
   have j:cw row o (Nat.mul len z)=some cs:=i;rw[d.1];simp only[Ev.elems,e,j]
  | inr d=>
   rw[d]at f i;have e:rowAt H b=some row:=by rw[Pc l];exact f
   have j:cw row o (Nat.mul len z)=some cs:=i;rw[d];simp only[Ev.elems,e,j,b4,cond_true];cases hl:Nat.beq len 0 with
   | true=>
    have:len=0:=bY hl;have:cs=[]:=by rw[this]at g1;simpa using g1
    rw[this,cond_true];simp[bY hl]
   | false=>rfl
def room{l m bytes:Nat}(h1:(l+m)*bytes<=1000000000)(h2:bytes<=100000)(a:l+m<=1000000000):
 (!(Nat.ble (Nat.mul (Nat.add l m) bytes) 1000000000&&Nat.ble bytes 100000&&Nat.ble (Nat.add l m) 1000000000))=false:=by
 have b:Nat.ble (Nat.mul (Nat.add l m) bytes) 1000000000=true:=gk h1;have c:Nat.ble bytes 100000=true:=gk h2;have d:Nat.ble (Nat.add l m) 1000000000=true:=gk a;rw[b,c,d];rfl
def aaZ{e z bytes m:Nat}{i new:List V}{s x:ao}{v:V}(hs:ge E s=some .ns)(f:ge E x=some v)(a:κ h n z v m new)(h1:m*bytes<=1000000000)(h2:bytes<=100000)(q:m<=1000000000)
 (j:m=0->k .ns h n)(o:0<m->k (.su n 0 m z) (hp h n (some (.c new e 0))) n.succ):SO C (.app e z bytes i false s x) E h n k:=
 mz (λ_ _ _ _=>rfl) λT H b d=>by
  have p:=room (l:=0) (m:=m) (bytes:=bytes) (by simpa using h1) h2 (by omega);have g:(!(Nat.ble (Nat.mul (Nat.add (V.len .ns) m) bytes) 1000000000&&Nat.ble bytes 100000&&Nat.ble (Nat.add (V.len .ns) m) 1000000000))=false:=p;by_cases hm:m=0
  ·refine⟨.ns,H,n,?_,by rw[d];exact j hm⟩;have hb:Nat.beq m 0=true:=by rw[dP];simpa using hm
   simp only[simple,b.ge hs,b.ge f,a.elems d,cond_false,tT,g,hb,cond_true]
  ·refine⟨.su n 0 m z,H.put (some (.c new e 0)) n,n.succ,?_,by rw[fE,d];exact o (by omega)⟩;have hb:Nat.beq m 0=false:=by rw[dP];simpa using hm
   simp only[simple,b.ge hs,b.ge f,a.elems d,cond_false,tT,g,hb,jD]
def dB(h:Hf)(e z:Nat)(v:V)(len:Nat)(cs:List V):Prop:=
 cs.length=len*z/\((v=.ns/\len=0)\/(0<len/\∃b,v=.su b 0 len z/\h b=some (.c cs e 0)))
def dB.ns(h:Hf)(e z:Nat):dB h e z .ns 0 []:=⟨by simp,Or.inl ⟨rfl,rfl⟩⟩
def dB.At(v:V)(lo hi:K):Prop:=v=.ns\/(lo.num<=v.blk.num/\v.blk.num<hi.num)
def aa0{e z bytes m len:Nat}{q new cs:List V}{s x:ao}{o v:V}(hs:ge E s=some o)(r:dB h e z o len cs)(p:ge E x=some v)(a:κ h n z v m new)(h1:(len+m)*bytes<=1000000000)(h2:bytes<=100000)(t:len+m<=1000000000)
 (hm:0<m)(u:aB new=true)(i:∀h',(∀b:K,b.num<n.num->(o=.ns\/b≠o.blk)->h' b=h b)->h' n=some (.c (cs++new) e 0)->k (.su n 0 (len+m) z) h' n.succ)(w:o=.ns\/o.blk.num<n.num):SO C (.app e z bytes q false s x) E h n k:=
 mz (λ_ _ _ _=>rfl) λT H f d=>by
  obtain⟨g1,y⟩:=r;have hb:Nat.beq m 0=false:=by rw[dP];simp;omega
  cases y with
  | inl g=>
   obtain⟨rfl,rfl⟩:=g;have j:(!(Nat.ble (Nat.mul (Nat.add (V.len .ns) m) bytes) 1000000000&&Nat.ble bytes 100000&&Nat.ble (Nat.add (V.len .ns) m) 1000000000))=false:=room (l:=0) (m:=m) (bytes:=bytes) (by simpa using h1) h2 (by omega);have A:cs=[]:=by simpa using g1
   subst A;refine⟨.su n 0 m z,H.put (some (.c new e 0)) n,n.succ,?_,?_⟩
   ·simp only[simple,f.ge hs,f.ge p,a.elems d,cond_false,tT,j,hb,jD]
   ·rw[fE,d];have:=i (hp h n (some (.c new e 0))) (λb hb _=>mu _ _ (qo (by omega))) (eJ _ _ _);rw[eV]at this;exact this
  | inr g=>
   obtain⟨hl,b,rfl,B⟩:=g;have j:(!(Nat.ble (Nat.mul (Nat.add (V.len (.su b 0 len z)) m) bytes) 1000000000&&Nat.ble bytes 100000&&Nat.ble (Nat.add (V.len (.su b 0 len z)) m) 1000000000))=false:=room (l:=len) (m:=m) (bytes:=bytes) h1 h2 t;have I:b.num<n.num:=by cases w with | inl e=>cases e | inr e=>exact e
   have D:H.get b=some (.c cs e 0):=by rw[d];exact B
   have b1:Nat.beq e e=true:=by rw[dP];simp
   have b2:Nat.beq z z=true:=by rw[dP];simp
   have b3:Nat.ble 0 (Nat.add 0 (Nat.mul len z))=true:=gk (oy _);have b4:cw cs 0 (Nat.mul len z)=some cs:=by rw[ug (by show 0+len*z<=_;omega)];simp;show List.take (len*z) cs=cs;rw[←g1,fO]
   refine⟨.su n 0 (len+m) z,(H.put none b).put (some (.c (cs++new) e 0)) n,n.succ,?_,?_⟩
   ·simp only[simple,f.ge hs,f.ge p,a.elems d,cond_false,tT,j,hb,D,b1,b2,b3,u,iX,cond_true,b4,jD];rfl
   ·rw[fE,fE,d];refine i _ (λk i F=>?_) (eJ _ _ _);have G:k≠b:=by cases F with | inl e=>cases e | inr e=>exact e
    rw[mu _ _ (qo (by omega)),mu _ _ G]
def κ.of{b:K}{o c z len:Nat}{row cs:List V}(hb:b.num<n.num)(a:iP h b=some row)(d:len<=c)(hl:cs.length=len*z)(hs:cw row o (len*z)=some cs):κ h n z (.sl b o len c) len cs:=
 ⟨hl,Or.inr ⟨⟨b,o,c,Or.inl ⟨rfl,d⟩,hb⟩,row,a,hs⟩⟩
def kC{l:List V}{m:Nat}(h:l.length=m):cw l 0 m=some l:=by rw[ug (by omega)];simp[←h]
def κ.whole{b:K}{e fz z len:Nat}{row:List V}(hb:b.num<n.num)(a:h b=some (.c row e fz))(hl:row.length=len*z):κ h n z (.sl b 0 len len) len row:=
 κ.of hb (by simp[iP,a,O.row]) (ξ _) hl (kC hl)
def dB.sl{e z:Nat}{v:V}{len:Nat}{cs:List V}(a:dB h e z v len cs)(c:v=.ns\/v.blk.num<n.num):κ h n z v len cs:=by
 obtain⟨g1,d⟩:=a;refine⟨g1,d.imp id λ⟨hl,b,f,g⟩=>?_⟩;subst f;have hb:b.num<n.num:=by cases c with | inl e=>cases e | inr e=>exact e
 exact⟨⟨b,0,0,Or.inr U,hb⟩,cs,by simp[iP,V.blk,g,O.row],kC g1⟩
def dB.ext{e z:Nat}{v:V}{len:Nat}{cs:List V}(a:dB h e z v len cs){h':Hf}(he:v=.ns\/h' v.blk=h v.blk):dB h' e z v len cs:=by
 obtain⟨g1,d⟩:=a;refine⟨g1,d.imp id λ⟨hl,b,c,f⟩=>⟨hl,b,c,?_⟩⟩;subst c;cases he with
 | inl e=>cases e
 | inr e=>
  have:h' b=h b:=e;rw[this,f]
end
end
end Go.Ev.X
