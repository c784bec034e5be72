/- Part 0 of a proof: an evaluator of the functions and that it is right. It stands by itself; no condition. -/
import GoSem.Claims
import Derived.Below
import Derived.Orders
import Derived.Laws.Cells
import Derived.Laws.StructEq
import Derived.Laws.BytesString
import Derived.MapKept
import Derived.Stop.BytesEq
import Derived.Laws.Concat
import Derived.ChangeKeysEq
import Derived.Great.BuildSlice
namespace Go.Ev
set_option linter.unusedVariables false
inductive LV where
  | dead
  | undef
  | bool (b : Bool)
  | int (k : IntKind) (n : Int)
  | str (s : List UInt8)
  | nilp | nili | nilf | nilm | nils
  | box (v : LV)
  | ptr (t g : Nat) (path : List Nat) (off : Nat)
  | arr (t g : Nat) (path : List Nat) (off lo len : Nat)
  | lst (tag : Option (Nat × Nat)) (l : List LV)
  | ifc (t : TypeId) (v : LV)
  | clo (f : FuncId) (caps : List LV)
  | agg (l : List LV)
  | bytes (b : List UInt8)
  | tup (l : List LV)
  | fresh (v : LV)
  | anyb
  | mref (t g : Nat)
  | sarr (t g n esz : Nat)
  | mth (f : FuncId) (x : LV)
  deriving Inhabited
abbrev K0 : Nat := 1000000
def byteLV (b : UInt8) : LV := .int .u8 (b.toNat : Int)
mutual
def flatLen : LV → Nat
  | .agg l => sumLen l
  | .bytes b => b.length
  | .dead | .undef | .tup _ | .fresh _ | .anyb => 1
  | .bool _ | .int .. | .str _ | .nilp | .nili | .nilf | .nilm | .nils | .box _ | .ptr .. | .arr .. | .lst .. | .ifc .. | .clo .. | .mref .. | .sarr .. | .mth .. => 1
def sumLen : List LV → Nat
  | [] => 0
  | v :: l => flatLen v + sumLen l
end
def LV.isAgg : LV → Bool
  | .agg _ | .bytes _ => true
  | _ => false
inductive Slot where
  | none (g : Nat)
  | obj (g : Nat) (v : LV)
  | tag (g n sz : Nat)
  | mp (g : Nat) (es : List (LV × LV))
  deriving Inhabited
def Slot.gen : Slot → Nat
  | .none g | .obj g _ | .tag g _ _ | .mp g _ => g
abbrev Slots := Nat → Slot
def noSlots : Slots := fun _ => .none 0
def upd (sl : Slots) (t : Nat) (s : Slot) : Slots := fun u => if u = t then s else sl u
def getPath : LV → List Nat → Option (LV × Nat)
  | v, [] => some (v, 0)
  | .agg l, i :: p => match l[i]? with
    | some v => (getPath v p).map fun r => (r.1, sumLen (l.take i) + r.2)
    | none => none
  | .bytes b, [i] => (b[i]?).map fun x => (byteLV x, i)
  | _, _ => none
def setPath : LV → List Nat → LV → Option LV
  | v, [], x => some x
  | .agg l, i :: p, x => match l[i]? with
    | some v => (setPath v p x).map fun y => .agg (l.set i y)
    | none => none
  | .bytes b, [i], .int .u8 n => if i < b.length ∧ 0 ≤ n ∧ n < 256 then some (.bytes (b.set i (UInt8.ofNat n.toNat))) else none
  | _, _, _ => none
mutual
def psl : LV → Option LV
  | .nils => some (.lst none [])
  | .lst _ l => some (.lst none l)
  | .agg l => (pslL l).map .agg
  | .clo f caps => (pslL caps).map (.clo f)
  | .dead | .undef | .tup _ | .fresh _ | .anyb | .ptr .. | .arr .. | .mref .. | .sarr .. => none
  | .bool b => some (.bool b)
  | .int k n => some (.int k n)
  | .str s => some (.str s)
  | .nilp => some .nilp
  | .nili => some .nili
  | .nilf => some .nilf
  | .nilm => some .nilm
  | .box v => some (.box v)
  | .ifc t v => some (.ifc t v)
  | .mth f x => some (.mth f x)
  | .bytes b => some (.bytes b)
def pslL : List LV → Option (List LV)
  | [] => some []
  | v :: l => (psl v).bind fun a => (pslL l).bind fun b => some (a :: b)
end
mutual
def pslG : LV → Option LV
  | .ptr t g p o => if K0 ≤ t then some (.ptr t g p o) else none
  | .mref t g => if K0 ≤ t then some (.mref t g) else none
  | .sarr t g n e => if K0 ≤ t then some (.sarr t g n e) else none
  | .nils => some .nils
  | .lst _ l => some (.lst none l)
  | .agg l => (pslGL l).map .agg
  | .clo f caps => (pslGL caps).map (.clo f)
  | .dead | .undef | .tup _ | .fresh _ | .anyb | .arr .. => none
  | .bool b => some (.bool b)
  | .int k n => some (.int k n)
  | .str s => some (.str s)
  | .nilp => some .nilp
  | .nili => some .nili
  | .nilf => some .nilf
  | .nilm => some .nilm
  | .box v => some (.box v)
  | .ifc t v => some (.ifc t v)
  | .mth f x => some (.mth f x)
  | .bytes b => some (.bytes b)
def pslGL : List LV → Option (List LV)
  | [] => some []
  | v :: l => (pslG v).bind fun a => (pslGL l).bind fun b => some (a :: b)
end
def arrBytes (sl : Slots) (t g : Nat) (path : List Nat) (off lo len : Nat) : Option (List UInt8) :=
  match sl t with
  | .obj g' c => if g = g' then match getPath c path with
    | some (.bytes b, o) => if o = off ∧ lo + len ≤ b.length then some ((b.drop lo).take len) else none
    | _ => none
    else none
  | _ => none
def sealV (sl : Slots) : LV → Option LV
  | .arr t g path off lo len => (arrBytes sl t g path off lo len).map fun b => .lst none (b.map byteLV)
  | v => psl v
def sealAll (sl : Slots) : List LV → Option (List LV)
  | [] => some []
  | v :: l => (sealV sl v).bind fun a => (sealAll sl l).bind fun b => some (a :: b)
inductive Sh where
  | bool
  | int (k : IntKind)
  | str
  | bytes (n : Nat)
  | agg (l : List Sh)
  deriving Inhabited
mutual
def eqSh : Sh → LV → LV → Option Bool
  | .bool, .bool a, .bool b => some (a == b)
  | .int k, .int k1 a, .int k2 b => if k1 = k ∧ k2 = k then some (decide (a = b)) else none
  | .str, .str a, .str b => some (decide (a = b))
  | .bytes n, .bytes a, .bytes b => if a.length = n ∧ b.length = n then some (decide (a = b)) else none
  | .agg l, .agg a, .agg b => eqShL l a b
  | _, _, _ => none
def eqShL : List Sh → List LV → List LV → Option Bool
  | [], [], [] => some true
  | s :: l, x :: a, y :: b => (eqSh s x y).bind fun p => (eqShL l a b).bind fun q => some (p && q)
  | _, _, _ => none
end
inductive Opd where
  | tmp (t : Nat)
  | cst (v : LV)
  deriving Inhabited
def getL (tm : List LV) (t : Nat) : LV := (tm[t]?).getD .undef
def Opd.ev (tm : List LV) : Opd → LV
  | .tmp t => getL tm t
  | .cst v => v
inductive MOp where
  | mov (x : Opd)
  | pick (c a b : Opd)
  | bin (op : BinOp) (x y : Opd)
  | eqB (neg : Bool) (x y : Opd)
  | eqNil (kind : Nat) (neg : Bool) (x : Opd)
  | eqS (sh : Sh) (neg : Bool) (x y : Opd)
  | un (op : UnOp) (x : Opd)
  | conv (k : IntKind) (x : Opd)
  | build (z : LV) (parts : List (Nat × Opd))
  | mkIface (t : TypeId) (x : Opd)
  | assert (t : TypeId) (commaOk : Bool) (z : LV) (x : Opd)
  | mkFunc (f : FuncId) (caps : List Opd)
  | mkMth (f : FuncId) (x : Opd)
  | nilCheck (x : Opd)
  | fieldAddr (f off : Nat) (x : Opd)
  | field (f off sz : Nat) (ag : Bool) (x : Opd)
  | idxAddr (n : Option Nat) (esz : Nat) (x i : Opd)
  | idxStr (x i : Opd)
  | idxArr (n esz : Nat) (ag : Bool) (x i : Opd)
  | slc (esz : Nat) (x : Opd) (lo hi : Option Opd)
  | slcArr (n : Nat) (x : Opd) (lo hi : Option Opd)
  | slc0 (x : Opd)
  | extract (x : Opd) (i : Nat)
  | len (str : Bool) (x : Opd)
  | minmax (mx : Bool) (x : Opd) (rest : List Opd)
  | box (x : Opd)
  | bsl (z : LV) (n : Nat) (parts : List (Nat × Opd))
  | load (sz : Nat) (ag : Bool) (x : Opd)
  | b2s (x : Opd)
  | call (f : FuncId) (args : List Opd)
  | callv (x : Opd) (args : List Opd)
  | alloc (z : LV)
  | boxM (x : Opd)
  | bslM (n : Nat) (parts : List (Nat × Opd))
  | bslT (z : LV) (n : Nat) (parts : List (Nat × Opd))
  | mkSl (len cap : Opd)
  | s2b (x : Opd)
  | store (sz : Nat) (ag : Bool) (x y : Opd)
  | append (esz bytes : Nat) (x y : Opd)
  | copy (x y : Opd)
  | callRw (f : FuncId) (args : List Opd)
  | nilT (sz : Nat)
  | callFr (f : FuncId) (args : List Opd)
  | mapNew
  | mapIns (ks : Option IntKind) (x k v : Opd)
  | mapGet (ks : Option IntKind) (z : LV) (ok : Bool) (x k : Opd)
  | inlR (f : FuncId) (args : List Opd)
  | inl (f : FuncId) (args : List Opd)
  | boxH (k : Nat) (x : Opd)
  | mapNewH (k : Nat)
  | appH (k esz bytes : Nat) (x y : Opd)
  | mapPut (ks : Option IntKind) (x k v : Opd)
  | mapDel (ks : Option IntKind) (x k : Opd)
  deriving Inhabited
structure MOper where
  dst : Option Nat
  guard : Option (Nat × Bool)
  op : MOp
  deriving Inhabited
abbrev Call := FuncId → List LV → Option LV → Option (LV × Option LV)
abbrev HCall := FuncId → List LV → Slots → Option (LV × Slots)
structure Tab where
  c : Call
  i : HCall
instance : CoeFun Tab (fun _ => Call) := ⟨Tab.c⟩
def bitsOf (op : BinOp) (k : IntKind) (x y : Int) : Int :=
  let a := BitVec.ofInt k.bits x
  let b := BitVec.ofInt k.bits y
  match op with
  | .and => k.wrap (a &&& b).toNat
  | .or => k.wrap (a ||| b).toNat
  | .xor => k.wrap (a ^^^ b).toNat
  | _ => k.wrap (a &&& ~~~b).toNat
def pInt (op : BinOp) (k : IntKind) (a b : Int) : Option LV :=
  match op with
  | .add => some (.int k (k.wrap (a + b)))
  | .sub => some (.int k (k.wrap (a - b)))
  | .mul => some (.int k (k.wrap (a * b)))
  | .quo => if b = 0 then none else some (.int k (k.wrap (a.tdiv b)))
  | .rem => if b = 0 then none else some (.int k (a.tmod b))
  | .and | .or | .xor | .andNot => some (.int k (bitsOf op k a b))
  | .eql => some (.bool (decide (a = b)))
  | .neq => some (.bool (!decide (a = b)))
  | .lss => some (.bool (decide (a < b)))
  | .leq => some (.bool (decide (a ≤ b)))
  | .gtr => some (.bool (decide (b < a)))
  | .geq => some (.bool (decide (b ≤ a)))
  | .shl | .shr => none
def pShift (op : BinOp) (k : IntKind) (a b : Int) : Option LV :=
  if b < 0 then none else
  match op with
  | .shl => some (.int k (k.wrap (a * 2 ^ (min b.toNat k.bits))))
  | .shr => some (.int k (a.fdiv (2 ^ (min b.toNat k.bits))))
  | _ => none
def maxStr : Nat := 9223372036854775807
def pStr (op : BinOp) (a b : List UInt8) : Option LV :=
  match op with
  | .add => if a.length + b.length ≤ maxStr then some (.str (a ++ b)) else none
  | .eql => some (.bool (decide (a = b)))
  | .neq => some (.bool (!decide (a = b)))
  | _ => none
def pBin (op : BinOp) : LV → LV → Option LV
  | .int k a, .int k' b => if op = .shl ∨ op = .shr then pShift op k a b else if k = k' then pInt op k a b else none
  | .str a, .str b => pStr op a b
  | _, _ => none
def pEqB (neg : Bool) : LV → LV → Option LV
  | .bool a, .bool b => some (.bool (if neg then a != b else a == b))
  | _, _ => none
def pEqNil (kind : Nat) (neg : Bool) : LV → Option LV
  | .nilp => if kind = 0 then some (.bool (!neg)) else none
  | .nili => if kind = 1 then some (.bool (!neg)) else none
  | .nilf => if kind = 2 then some (.bool (!neg)) else none
  | .box _ | .ptr .. => if kind = 0 then some (.bool neg) else none
  | .ifc .. => if kind = 1 then some (.bool neg) else none
  | .clo .. => if kind = 2 then some (.bool neg) else none
  | .nils => if kind = 3 then some .anyb else none
  | .lst _ [] => if kind = 3 then some .anyb else none
  | .lst _ (_ :: _) => if kind = 3 then some (.bool neg) else none
  | .nilm => if kind = 4 then some (.bool (!neg)) else none
  | .mref .. => if kind = 4 then some (.bool neg) else none
  | _ => none
def pEqS (sh : Sh) (neg : Bool) (x y : LV) : Option LV := (eqSh sh x y).map fun b => .bool (if neg then !b else b)
def pUn (op : UnOp) : LV → Option LV
  | .bool b => if op = .not then some (.bool (!b)) else none
  | .int k n => match op with
    | .neg => some (.int k (k.wrap (0 - n)))
    | .xor => some (.int k (bitsOf .xor k (if k.signed then -1 else k.max) n))
    | _ => none
  | _ => none
def pConv (k : IntKind) : LV → Option LV
  | .int _ n => some (.int k (k.wrap n))
  | .str s => none
  | _ => none
def pPick : LV → LV → LV → Option LV
  | .bool c, a, b => some (if c then a else b)
  | _, _, _ => none
def okPart (old new : LV) : Bool := decide (flatLen old = flatLen new)
def stor : LV → Bool
  | .dead | .undef | .tup _ | .fresh _ | .anyb => false
  | _ => true
def putPart : LV → Nat → LV → Option LV
  | .agg l, i, x => match l[i]? with
    | some v => if flatLen v = flatLen x ∧ stor x = true then some (.agg (l.set i x)) else none
    | none => none
  | .bytes b, i, .int .u8 n => if i < b.length ∧ 0 ≤ n ∧ n < 256 then some (.bytes (b.set i (UInt8.ofNat n.toNat))) else none
  | _, _, _ => none
def putParts : LV → List (Nat × LV) → Option LV
  | z, [] => some z
  | z, (i, x) :: r => (putPart z i x).bind fun z' => putParts z' r
def pIface (t : TypeId) (x : LV) : Option LV := if x.isAgg then none else (psl x).map (.ifc t)
def pAssert (t : TypeId) (commaOk : Bool) (z : LV) : LV → Option LV
  | .nili => if commaOk then some (.tup [z, .bool false]) else none
  | .ifc t' v => if t' = t then some (if commaOk then .tup [v, .bool true] else v) else if commaOk then some (.tup [z, .bool false]) else none
  | _ => none
def pNilCheck : LV → Option LV
  | .box v => some (.box v)
  | .ptr t g p o => some (.ptr t g p o)
  | .clo f c => some (.clo f c)
  | _ => none
def pFieldAddr (f off : Nat) : LV → Option LV
  | .box (.agg l) => match l[f]? with
    | some v => if sumLen (l.take f) = off then some (.box v) else none
    | none => none
  | .ptr t g p o => some (.ptr t g (p ++ [f]) (o + off))
  | _ => none
def pField (f off sz : Nat) (ag : Bool) : LV → Option LV
  | .agg l => match l[f]? with
    | some v => if sumLen (l.take f) = off ∧ flatLen v = sz ∧ v.isAgg = ag then some v else none
    | none => none
  | _ => none
def natOf : LV → Option Nat
  | .int _ n => if 0 ≤ n then some n.toNat else none
  | _ => none
def pIdxAddr (n : Option Nat) (esz : Nat) (x i : LV) : Option LV :=
  (natOf i).bind fun j =>
  match n, x with
  | some n, .box (.bytes b) => if j < n ∧ b.length = n ∧ esz = 1 then (b[j]?).map fun y => .box (byteLV y) else none
  | some n, .box (.agg l) => match l[j]? with
    | some v => if j < n ∧ sumLen (l.take j) = j * esz then some (.box v) else none
    | none => none
  | some n, .ptr t g p o => if j < n then some (.ptr t g (p ++ [j]) (o + j * esz)) else none
  | none, .lst _ l => match l[j]? with
    | some v => if flatLen v = esz ∧ 0 < esz then some (.box v) else none
    | none => none
  | none, .arr t g p o lo len => if j < len ∧ esz = 1 then some (.ptr t g (p ++ [lo + j]) (o + lo + j)) else none
  | none, .sarr t g n e => if j < n ∧ e = esz ∧ 0 < esz then some (.ptr t g [j] (j * esz)) else none
  | _, _ => none
def pIdxStr : LV → LV → Option LV
  | .str s, i => (natOf i).bind fun j => (s[j]?).map byteLV
  | _, _ => none
def pIdxArr (n esz : Nat) (ag : Bool) (x i : LV) : Option LV :=
  (natOf i).bind fun j =>
  match x with
  | .bytes b => if j < n ∧ esz = 1 ∧ ag = false then (b[j]?).map byteLV else none
  | .agg l => match l[j]? with
    | some v => if j < n ∧ sumLen (l.take j) = j * esz ∧ flatLen v = esz ∧ v.isAgg = ag then some v else none
    | none => none
  | _ => none
def bound (len : Nat) (dflt : Nat) : Option LV → Option Nat
  | none => some dflt
  | some v => (natOf v).bind fun j => if j ≤ len then some j else none
def pSlc (esz : Nat) (x : LV) (lo hi : Option LV) : Option LV :=
  match x with
  | .str s => if esz = 0 then (bound s.length s.length hi).bind fun h => (bound h 0 lo).bind fun l => some (.str ((s.drop l).take (h - l))) else none
  | .lst _ s => if esz ≠ 0 ∧ (s.all fun v => decide (flatLen v = esz)) = true then
      (bound s.length s.length hi).bind fun h => (bound h 0 lo).bind fun l => some (.lst none ((s.drop l).take (h - l))) else none
  | .nils => if esz = 0 then none else (bound 0 0 hi).bind fun h => (bound h 0 lo).bind fun l => some .nils
  | .arr t g p o a n => if esz = 1 then
      (bound n n hi).bind fun h => (bound h 0 lo).bind fun l => some (if l < h then .arr t g p o (a + l) (h - l) else .lst none []) else none
  | _ => none
def pSlc0 : LV → Option LV
  | .lst _ _ | .nils => some .nils
  | _ => none
def pExtract : LV → Nat → Option LV
  | .tup l, i => l[i]?
  | _, _ => none
def pLen : Bool → LV → Option LV
  | true, .str s => some (.int .i64 (s.length : Int))
  | false, .lst _ l => some (.int .i64 (l.length : Int))
  | false, .nils => some (.int .i64 0)
  | false, .arr _ _ _ _ _ n => some (.int .i64 (n : Int))
  | false, .sarr _ _ n _ => some (.int .i64 (n : Int))
  | _, _ => none
def pMinmax2 (mx : Bool) : LV → LV → Option LV
  | .int k a, .int _ b => some (.int k (if mx then (if a < b then b else a) else (if b < a then b else a)))
  | _, _ => none
def pMinmax (mx : Bool) : LV → List LV → Option LV
  | x, [] => some x
  | x, y :: r => (pMinmax2 mx x y).bind fun z => pMinmax mx z r
def pBsl (z : LV) (n : Nat) (parts : List (Nat × LV)) : Option LV :=
  (putParts (.agg (List.replicate n z)) parts).bind fun v => match v with
    | .agg l => (pslL l).map (.lst none)
    | _ => none
def pMkMth (f : FuncId) (x : LV) : Option LV := if x.isAgg then (psl x).map (.mth f) else none
def pMkFunc (f : FuncId) (caps : List LV) : Option LV := if caps.all (fun v => stor v && !v.isAgg) then some (.clo f caps) else none
def pBox (x : LV) : Option LV := (psl x).map .box
def rLoad (sz : Nat) (ag : Bool) (sl : Slots) : LV → Option LV
  | .box v => if flatLen v = sz ∧ v.isAgg = ag then some v else none
  | .ptr t g p o => match sl t with
    | .obj g' c => if g = g' then match getPath c p with
      | some (v, o') => if o' = o ∧ flatLen v = sz ∧ v.isAgg = ag then some v else none
      | none => none
      else none
    | _ => none
  | _ => none
def toByte : LV → Option UInt8
  | .int .u8 n => some (UInt8.ofNat n.toNat)
  | _ => none
def toBytes : List LV → Option (List UInt8)
  | [] => some []
  | v :: l => (toByte v).bind fun a => (toBytes l).bind fun b => some (a :: b)
def okByte : LV → Bool
  | .int .u8 n => decide (0 ≤ n) && decide (n < 256)
  | _ => false
def rSlcArr (n : Nat) (sl : Slots) (x : LV) (lo hi : Option LV) : Option LV :=
  (bound n n hi).bind fun h => (bound h 0 lo).bind fun l =>
  match x with
  | .box (.bytes b) => if b.length = n then some (.lst none (((b.drop l).take (h - l)).map byteLV)) else none
  | .ptr t g p o => match sl t with
    | .obj g' c => if g = g' then match getPath c p with
      | some (.bytes b, o') => if o' = o ∧ b.length = n then some (if l < h then .arr t g p o l (h - l) else .lst none []) else none
      | _ => none
      else none
    | _ => none
  | _ => none
def rB2s (sl : Slots) : LV → Option LV
  | .nils => some (.str [])
  | .lst _ l => (toBytes l).map .str
  | .arr t g p o lo len => (arrBytes sl t g p o lo len).map .str
  | _ => none
def plainRes : LV → Bool
  | .fresh _ => false
  | _ => true
mutual
def noAdr : LV → Bool
  | .bool _ | .int .. | .str _ | .nilp | .nili | .nilf | .nilm | .nils | .bytes _ => true
  | .ifc _ v => noAdr v
  | .agg l | .tup l => noAdrL l
  | .dead | .undef | .fresh _ | .anyb | .box _ | .ptr .. | .arr .. | .lst .. | .clo .. | .mref .. | .sarr .. | .mth .. => false
def noAdrL : List LV → Bool
  | [] => true
  | v :: l => noAdr v && noAdrL l
end
def rCall (g : Tab) (f : FuncId) (sl : Slots) (args : List LV) : Option LV :=
  match pslL args with
  | some as => (g f as none).bind fun r => if plainRes r.1 then some r.1 else none
  | none => (sealAll sl args).bind fun as => (g f as none).bind fun r => if noAdr r.1 then some r.1 else none
def rCallv (g : Tab) (sl : Slots) (x : LV) (args : List LV) : Option LV :=
  match x with
  | .clo f caps => rCall g f sl (args ++ caps)
  | .mth f x => rCall g f sl (x :: args)
  | _ => none
def scV : LV → Option Value
  | .int k n => some (.int k n)
  | .str s => some (.string ⟨⟨s⟩⟩)
  | .bool b => some (.bool b)
  | _ => none
def keyEq : LV → LV → Option Bool
  | .int k a, .int k' b => if k = k' then some (decide (a = b)) else none
  | .str a, .str b => some (decide (a = b))
  | _, _ => none
def mfind (k : LV) : List (LV × LV) → Option (Option LV)
  | [] => some none
  | e :: es => (keyEq k e.1).bind fun b => if b then some (some e.2) else mfind k es
def isKey : Option IntKind → LV → Bool
  | some k, .int k' _ => decide (k' = k)
  | none, .str _ => true
  | _, _ => false
def hit (z : LV) (ok : Bool) : Option LV → LV
  | some v => if ok then .tup [v, .bool true] else v
  | none => if ok then .tup [z, .bool false] else z
def rMapGet (ks : Option IntKind) (z : LV) (ok : Bool) (sl : Slots) (x k : LV) : Option LV :=
  match x with
  | .mref t g => match sl t with
    | .mp g' es => if g = g' ∧ isKey ks k = true then (mfind k es).map (hit z ok) else none
    | _ => none
  | _ => none
def wMapIns (ks : Option IntKind) (sl : Slots) (x k v : LV) : Option (LV × Slots) :=
  match x with
  | .mref t g => match sl t with
    | .mp g' es => if g = g' ∧ isKey ks k = true ∧ (scV v).isSome = true then match mfind k es with
      | some none => some (.undef, upd sl t (.mp g (es ++ [(k, v)])))
      | _ => none
      else none
    | _ => none
  | _ => none
def cMapNew (d : Nat) (sl : Slots) : Option (LV × Slots) :=
  match sl d with
  | .none g => some (.mref d (g + 1), upd sl d (.mp (g + 1) []))
  | _ => none
def mkObj (sl : Slots) (d : Nat) (v : LV) : Option (Nat × Slots) :=
  match sl d with
  | .none g => some (g + 1, upd sl d (.obj (g + 1) v))
  | _ => none
def cAlloc (z : LV) (d : Nat) (sl : Slots) : Option (LV × Slots) := (mkObj sl d z).map fun r => (.ptr d r.1 [] 0, r.2)
def cBoxM (x : LV) (d : Nat) (sl : Slots) : Option (LV × Slots) := (psl x).bind fun y => (mkObj sl d y).map fun r => (.ptr d r.1 [] 0, r.2)
def cBytes (b : List UInt8) (d : Nat) (sl : Slots) : Option (LV × Slots) := (mkObj sl d (.bytes b)).map fun r => (.arr d r.1 [] 0 0 b.length, r.2)
def cMkSl (d : Nat) (sl : Slots) (len cap : LV) : Option (LV × Slots) :=
  match len, cap with
  | .int .i64 n, .int .i64 m => if 0 ≤ n ∧ n ≤ m ∧ m ≤ 1099511627776 then cBytes (List.replicate n.toNat 0) d sl else none
  | _, _ => none
def cS2b (d : Nat) (sl : Slots) : LV → Option (LV × Slots)
  | .str s => if s.length ≤ 1099511627776 then cBytes s d sl else none
  | _ => none
def cBslM (n : Nat) (parts : List (Nat × LV)) (d : Nat) (sl : Slots) : Option (LV × Slots) :=
  (putParts (.bytes (List.replicate n 0)) parts).bind fun v => match v with
    | .bytes b => cBytes b d sl
    | _ => none
def cCallFr (g : Tab) (f : FuncId) (d : Nat) (sl : Slots) (args : List LV) : Option (LV × Slots) :=
  (pslL args).bind fun as => (g f as none).bind fun r => match r.1 with
    | .fresh v => (mkObj sl d v).map fun q => (.ptr d q.1 [] 0, q.2)
    | _ => none
def cNilT (sz d : Nat) (sl : Slots) : Option (LV × Slots) :=
  match sl d with
  | .none g => some (.lst (some (d, g + 1)) [], upd sl d (.tag (g + 1) 0 sz))
  | _ => none
def wStore (sz : Nat) (ag : Bool) (sl : Slots) (x y : LV) : Option (LV × Slots) :=
  match x with
  | .ptr t g p o => match sl t with
    | .obj g' c => if g = g' then match getPath c p with
      | some (v, o') => if o' = o ∧ flatLen v = sz ∧ flatLen y = sz ∧ v.isAgg = ag ∧ y.isAgg = ag then
          (if K0 ≤ t then pslG y else psl y).bind fun y' => (setPath c p y').map fun c' => (.undef, upd sl t (.obj g c'))
        else none
      | none => none
      else none
    | _ => none
  | _ => none
def wCopy (sl : Slots) (x y : LV) : Option (LV × Slots) :=
  match x with
  | .arr t g p o lo len => match sl t with
    | .obj g' c => if g = g' then match getPath c p with
      | some (.bytes b, o') => if o' = o ∧ lo + len ≤ b.length then
          (match y with | .str s => some s | .lst _ l => if l.all okByte then toBytes l else none | .nils => some [] | _ => none).bind fun s =>
          (setPath c p (.bytes (b.take lo ++ s.take (min s.length len) ++ b.drop (lo + min s.length len)))).map fun c' =>
            (.int .i64 (min s.length len : Nat), upd sl t (.obj g c'))
        else none
      | _ => none
      else none
    | _ => none
  | _ => none
def newEls (sl : Slots) (esz : Nat) : LV → Option (List LV)
  | .nils => some []
  | .lst _ l => if l.all fun v => decide (flatLen v = esz) then some l else none
  | .arr t g p o lo len => if esz = 1 then (arrBytes sl t g p o lo len).map (·.map byteLV) else none
  | .str s => if esz = 1 then some (s.map byteLV) else none
  | _ => none
def wAppend (esz bytes d : Nat) (sl : Slots) (x y : LV) : Option (LV × Slots) :=
  (newEls sl esz y).bind fun new =>
  match x with
  | .nils => if new = [] then some (.nils, sl) else
    if new.length * bytes ≤ 1099511627776 then
      match sl d with
      | .obj .. | .mp .. => none
      | s => some (.lst (some (d, s.gen + 1)) new, upd sl d (.tag (s.gen + 1) new.length esz)) else none
  | .lst tag l => if new = [] then some (.lst tag l, sl) else
    match tag with
    | none => none
    | some (t, g) => match sl t with
      | .tag g' n sz => if g = g' ∧ n = l.length ∧ sz = esz ∧ (l.all fun v => decide (flatLen v = esz)) = true ∧ (l.length + new.length) * bytes ≤ 1099511627776 then
          some (.lst (some (t, g)) (l ++ new), upd sl t (.tag g (n + new.length) sz)) else none
      | _ => none
  | .arr t g [] 0 0 len => match sl t with
    | .obj g' (.bytes b) => if g = g' ∧ len = b.length ∧ esz = 1 ∧ bytes = 1 ∧ b.length + new.length ≤ 1099511627776 ∧ new.all okByte = true then
        (toBytes new).map fun s => (.arr t (g + 1) [] 0 0 (b.length + s.length), upd sl t (.obj (g + 1) (.bytes (b ++ s)))) else none
    | _ => none
  | _ => none
def cBslT (z : LV) (n : Nat) (parts : List (Nat × LV)) (d : Nat) (sl : Slots) : Option (LV × Slots) :=
  (pBsl z n parts).bind fun v => match v, sl d with
    | .lst _ l, .none g => some (.lst (some (d, g + 1)) l, upd sl d (.tag (g + 1) l.length (flatLen z)))
    | .lst _ l, .tag g _ _ => some (.lst (some (d, g + 1)) l, upd sl d (.tag (g + 1) l.length (flatLen z)))
    | _, _ => none
def wCallRw (g : Tab) (f : FuncId) (sl : Slots) (args : List LV) : Option (LV × Slots) :=
  match args with
  | .ptr t gn [] 0 :: rest => match sl t with
    | .obj g' c => if gn = g' then
        (psl c).bind fun c2 => (pslL rest).bind fun as => (g f (.ptr 0 0 [] 0 :: as) (some c2)).bind fun r =>
          match r.2 with
          | some c' => if plainRes r.1 then some (r.1, upd sl t (.obj gn c')) else none
          | none => none
      else none
    | _ => none
  | _ => none
def hp (sl : Slots) : Slots := fun t => if K0 ≤ t then sl t else .none 0
def mrg (sl h : Slots) : Slots := fun t => if K0 ≤ t then h t else sl t
def mval : LV → Bool
  | .ptr t _ [] 0 => decide (K0 ≤ t)
  | v => (scV v).isSome
def mset (k v : LV) : List (LV × LV) → Option (List (LV × LV))
  | [] => some [(k, v)]
  | e :: es => (keyEq k e.1).bind fun b => if b then some ((e.1, v) :: es) else (mset k v es).map (e :: ·)
def mdel (k : LV) : List (LV × LV) → Option (List (LV × LV))
  | [] => some []
  | e :: es => (keyEq k e.1).bind fun b => if b then some es else (mdel k es).map (e :: ·)
def hInl (g : Tab) (f : FuncId) (sl : Slots) (args : List LV) : Option (LV × Slots) :=
  (pslGL args).bind fun as => (g.i f as (hp sl)).map fun r => (r.1, mrg sl r.2)
open Classical in
noncomputable def rInl (g : Tab) (f : FuncId) (sl : Slots) (args : List LV) : Option LV :=
  (pslGL args).bind fun as => (g.i f as (hp sl)).bind fun r => if r.2 = hp sl then some r.1 else none
def hBox (k : Nat) (sl : Slots) (x : LV) : Option (LV × Slots) :=
  if K0 ≤ k then (pslG x).bind fun y => (mkObj sl k y).map fun r => (.ptr k r.1 [] 0, r.2) else none
def hMapNew (k : Nat) (sl : Slots) : Option (LV × Slots) := if K0 ≤ k then cMapNew k sl else none
def hApp (k esz bytes : Nat) (sl : Slots) (x y : LV) : Option (LV × Slots) :=
  match y with
  | .lst _ new => if new ≠ [] ∧ (new.all fun v => decide (flatLen v = esz)) = true then
    match x with
    | .nils => if K0 ≤ k ∧ new.length * bytes ≤ 1099511627776 then
        (mkObj sl k (.agg new)).map fun r => (.sarr k r.1 new.length esz, r.2) else none
    | .sarr t g n e => match sl t with
      | .obj g' (.agg l) => if g = g' ∧ n = l.length ∧ e = esz ∧ K0 ≤ t ∧ (l.all fun v => decide (flatLen v = esz)) = true ∧ (l.length + new.length) * bytes ≤ 1099511627776 then
          some (.sarr t (g + 1) (n + new.length) esz, upd sl t (.obj (g + 1) (.agg (l ++ new)))) else none
      | _ => none
    | _ => none
    else none
  | _ => none
def hMapPut (ks : Option IntKind) (sl : Slots) (x k v : LV) : Option (LV × Slots) :=
  match x with
  | .mref t g => match sl t with
    | .mp g' es => if g = g' ∧ isKey ks k = true ∧ mval v = true then (mset k v es).map fun es' => (.undef, upd sl t (.mp g es')) else none
    | _ => none
  | _ => none
def hMapDel (ks : Option IntKind) (sl : Slots) (x k : LV) : Option (LV × Slots) :=
  match x with
  | .mref t g => match sl t with
    | .mp g' es => if g = g' ∧ isKey ks k = true then (mdel k es).map fun es' => (.tup [], upd sl t (.mp g es')) else none
    | _ => none
  | _ => none
inductive Ex where | normal | exit (id : Nat) | ret
  deriving DecidableEq, Inhabited
def back (sl0 sl : Slots) : Slots := fun t => if K0 ≤ t then sl t else match sl0 t, sl t with
  | .none g, .obj _ _ => .none g
  | .none g, .mp _ _ => .none g
  | _, s => s
mutual
def refOk (sl : Slots) : LV → Bool
  | .ptr t g _ _ | .arr t g _ _ _ _ => match sl t with | .obj .. => true | _ => false
  | .lst (some (t, _)) _ => match sl t with | .tag .. => true | _ => false
  | .mref t _ => match sl t with | .mp .. => true | _ => false
  | .sarr t _ _ _ => match sl t with | .obj .. => true | _ => false
  | .agg l | .tup l | .clo _ l => refOkL sl l
  | .fresh _ => false
  | _ => true
def refOkL (sl : Slots) : List LV → Bool
  | [] => true
  | v :: l => refOk sl v && refOkL sl l
end
def roundEnd (sl0 : Slots) (e : Ex) (vs : List LV) (sl : Slots) : Option ((List LV × Slots) ⊕ (Ex × List LV × Slots)) :=
  match e with
  | .normal => if refOkL (back sl0 sl) vs then some (.inl (vs, back sl0 sl)) else none
  | e => some (.inr (e, vs, sl))
def outV (h : Option LV) (sl : Slots) (v : LV) : Option LV :=
  match h with
  | none => match v with
    | .ptr t g [] 0 => match sl t with
      | .obj g' c => if g = g' then (psl c).map .fresh else none
      | _ => none
    | v => sealV sl v
  | some _ => psl v
def finV (h : Option LV) (sl : Slots) (vs : List LV) : Option (LV × Option LV) :=
  (match vs with
   | [v] => outV h sl v
   | vs => match h with
     | none => (sealAll sl vs).map .tup
     | some _ => (pslL vs).map .tup).bind fun r =>
  match h with
  | none => some (r, none)
  | some _ => match sl 0 with
    | .obj 0 v => (psl v).map fun v' => (r, some v')
    | _ => none
def outG (vs : List LV) : Option LV := match vs with
  | [v] => pslG v
  | vs => (pslGL vs).map .tup
def finH (sl : Slots) (vs : List LV) : Option (LV × Slots) := (outG vs).map fun r => (r, hp sl)
def guardOf (v : LV) (want : Bool) : Option Bool :=
  match v with
  | .bool b => some (b == want)
  | .undef => some false
  | _ => none
structure Prims where
  pick : LV → LV → LV → Option LV
  bin : BinOp → LV → LV → Option LV
  eqB : Bool → LV → LV → Option LV
  eqNil : Nat → Bool → LV → Option LV
  eqS : Sh → Bool → LV → LV → Option LV
  un : UnOp → LV → Option LV
  conv : IntKind → LV → Option LV
  parts : LV → List (Nat × LV) → Option LV
  iface : TypeId → LV → Option LV
  assert : TypeId → Bool → LV → LV → Option LV
  nilCheck : LV → Option LV
  fieldAddr : Nat → Nat → LV → Option LV
  field : Nat → Nat → Nat → Bool → LV → Option LV
  idxAddr : Option Nat → Nat → LV → LV → Option LV
  idxStr : LV → LV → Option LV
  idxArr : Nat → Nat → Bool → LV → LV → Option LV
  slc : Nat → LV → Option LV → Option LV → Option LV
  slc0 : LV → Option LV
  extract : LV → Nat → Option LV
  len : Bool → LV → Option LV
  minmax : Bool → LV → List LV → Option LV
  box : LV → Option LV
  mkFunc : FuncId → List LV → Option LV
  mkMth : FuncId → LV → Option LV
  bsl : LV → Nat → List (Nat × LV) → Option LV
  load : Nat → Bool → Slots → LV → Option LV
  slcArr : Nat → Slots → LV → Option LV → Option LV → Option LV
  b2s : Slots → LV → Option LV
  call : Tab → FuncId → Slots → List LV → Option LV
  callv : Tab → Slots → LV → List LV → Option LV
  alloc : LV → Nat → Slots → Option (LV × Slots)
  nilT : Nat → Nat → Slots → Option (LV × Slots)
  boxM : LV → Nat → Slots → Option (LV × Slots)
  bslM : Nat → List (Nat × LV) → Nat → Slots → Option (LV × Slots)
  mkSl : Nat → Slots → LV → LV → Option (LV × Slots)
  s2b : Nat → Slots → LV → Option (LV × Slots)
  callFr : Tab → FuncId → Nat → Slots → List LV → Option (LV × Slots)
  store : Nat → Bool → Slots → LV → LV → Option (LV × Slots)
  append : Nat → Nat → Nat → Slots → LV → LV → Option (LV × Slots)
  copy : Slots → LV → LV → Option (LV × Slots)
  callRw : Tab → FuncId → Slots → List LV → Option (LV × Slots)
  bslT : LV → Nat → List (Nat × LV) → Nat → Slots → Option (LV × Slots)
  mapNew : Nat → Slots → Option (LV × Slots)
  mapIns : Option IntKind → Slots → LV → LV → LV → Option (LV × Slots)
  mapGet : Option IntKind → LV → Bool → Slots → LV → LV → Option LV
  inlR : Tab → FuncId → Slots → List LV → Option LV
  inl : Tab → FuncId → Slots → List LV → Option (LV × Slots)
  boxH : Nat → Slots → LV → Option (LV × Slots)
  mapNewH : Nat → Slots → Option (LV × Slots)
  appH : Nat → Nat → Nat → Slots → LV → LV → Option (LV × Slots)
  mapPut : Option IntKind → Slots → LV → LV → LV → Option (LV × Slots)
  mapDel : Option IntKind → Slots → LV → LV → Option (LV × Slots)
  finH : Slots → List LV → Option (LV × Slots)
  guard : LV → Bool → Option Bool
  fin : Option LV → Slots → List LV → Option (LV × Option LV)
  round : Slots → Ex → List LV → Slots → Option ((List LV × Slots) ⊕ (Ex × List LV × Slots))
noncomputable def prims : Prims where
  pick := pPick
  bin := pBin
  eqB := pEqB
  eqNil := pEqNil
  eqS := pEqS
  un := pUn
  conv := pConv
  parts := putParts
  iface := pIface
  assert := pAssert
  nilCheck := pNilCheck
  fieldAddr := pFieldAddr
  field := pField
  idxAddr := pIdxAddr
  idxStr := pIdxStr
  idxArr := pIdxArr
  slc := pSlc
  slc0 := pSlc0
  extract := pExtract
  len := pLen
  minmax := pMinmax
  box := pBox
  mkFunc := pMkFunc
  mkMth := pMkMth
  bsl := pBsl
  load := rLoad
  slcArr := rSlcArr
  b2s := rB2s
  call := rCall
  callv := rCallv
  alloc := cAlloc
  nilT := cNilT
  boxM := cBoxM
  bslM := cBslM
  mkSl := cMkSl
  s2b := cS2b
  callFr := cCallFr
  store := wStore
  append := wAppend
  copy := wCopy
  callRw := wCallRw
  bslT := cBslT
  mapNew := cMapNew
  mapIns := wMapIns
  mapGet := rMapGet
  inlR := rInl
  inl := hInl
  boxH := hBox
  mapNewH := hMapNew
  appH := hApp
  mapPut := hMapPut
  mapDel := hMapDel
  finH := finH
  guard := guardOf
  fin := finV
  round := roundEnd
theorem prims_there : ∃ p : Prims, p = prims := ⟨_, rfl⟩
noncomputable def pr : Prims := Classical.choose prims_there
theorem pr_eq : pr = prims := Classical.choose_spec prims_there
theorem pr_pick : pr.pick = pPick := by rw [pr_eq]; rfl
theorem pr_bin : pr.bin = pBin := by rw [pr_eq]; rfl
theorem pr_eqB : pr.eqB = pEqB := by rw [pr_eq]; rfl
theorem pr_eqNil : pr.eqNil = pEqNil := by rw [pr_eq]; rfl
theorem pr_eqS : pr.eqS = pEqS := by rw [pr_eq]; rfl
theorem pr_un : pr.un = pUn := by rw [pr_eq]; rfl
theorem pr_conv : pr.conv = pConv := by rw [pr_eq]; rfl
theorem pr_parts : pr.parts = putParts := by rw [pr_eq]; rfl
theorem pr_iface : pr.iface = pIface := by rw [pr_eq]; rfl
theorem pr_assert : pr.assert = pAssert := by rw [pr_eq]; rfl
theorem pr_nilCheck : pr.nilCheck = pNilCheck := by rw [pr_eq]; rfl
theorem pr_fieldAddr : pr.fieldAddr = pFieldAddr := by rw [pr_eq]; rfl
theorem pr_field : pr.field = pField := by rw [pr_eq]; rfl
theorem pr_idxAddr : pr.idxAddr = pIdxAddr := by rw [pr_eq]; rfl
theorem pr_idxStr : pr.idxStr = pIdxStr := by rw [pr_eq]; rfl
theorem pr_idxArr : pr.idxArr = pIdxArr := by rw [pr_eq]; rfl
theorem pr_slc : pr.slc = pSlc := by rw [pr_eq]; rfl
theorem pr_slcArr : pr.slcArr = rSlcArr := by rw [pr_eq]; rfl
theorem pr_slc0 : pr.slc0 = pSlc0 := by rw [pr_eq]; rfl
theorem pr_extract : pr.extract = pExtract := by rw [pr_eq]; rfl
theorem pr_len : pr.len = pLen := by rw [pr_eq]; rfl
theorem pr_minmax : pr.minmax = pMinmax := by rw [pr_eq]; rfl
theorem pr_mkMth : pr.mkMth = pMkMth := by rw [pr_eq]; rfl
theorem pr_mkFunc : pr.mkFunc = pMkFunc := by rw [pr_eq]; rfl
theorem pr_box : pr.box = pBox := by rw [pr_eq]; rfl
theorem pr_bsl : pr.bsl = pBsl := by rw [pr_eq]; rfl
theorem pr_load : pr.load = rLoad := by rw [pr_eq]; rfl
theorem pr_b2s : pr.b2s = rB2s := by rw [pr_eq]; rfl
theorem pr_call : pr.call = rCall := by rw [pr_eq]; rfl
theorem pr_callv : pr.callv = rCallv := by rw [pr_eq]; rfl
theorem pr_alloc : pr.alloc = cAlloc := by rw [pr_eq]; rfl
theorem pr_nilT : pr.nilT = cNilT := by rw [pr_eq]; rfl
theorem pr_boxM : pr.boxM = cBoxM := by rw [pr_eq]; rfl
theorem pr_bslM : pr.bslM = cBslM := by rw [pr_eq]; rfl
theorem pr_mkSl : pr.mkSl = cMkSl := by rw [pr_eq]; rfl
theorem pr_s2b : pr.s2b = cS2b := by rw [pr_eq]; rfl
theorem pr_callFr : pr.callFr = cCallFr := by rw [pr_eq]; rfl
theorem pr_store : pr.store = wStore := by rw [pr_eq]; rfl
theorem pr_append : pr.append = wAppend := by rw [pr_eq]; rfl
theorem pr_copy : pr.copy = wCopy := by rw [pr_eq]; rfl
theorem pr_callRw : pr.callRw = wCallRw := by rw [pr_eq]; rfl
theorem pr_bslT : pr.bslT = cBslT := by rw [pr_eq]; rfl
theorem pr_mapNew : pr.mapNew = cMapNew := by rw [pr_eq]; rfl
theorem pr_mapIns : pr.mapIns = wMapIns := by rw [pr_eq]; rfl
theorem pr_mapGet : pr.mapGet = rMapGet := by rw [pr_eq]; rfl
theorem pr_inlR : pr.inlR = rInl := by rw [pr_eq]; rfl
theorem pr_inl : pr.inl = hInl := by rw [pr_eq]; rfl
theorem pr_boxH : pr.boxH = hBox := by rw [pr_eq]; rfl
theorem pr_mapNewH : pr.mapNewH = hMapNew := by rw [pr_eq]; rfl
theorem pr_appH : pr.appH = hApp := by rw [pr_eq]; rfl
theorem pr_mapPut : pr.mapPut = hMapPut := by rw [pr_eq]; rfl
theorem pr_mapDel : pr.mapDel = hMapDel := by rw [pr_eq]; rfl
theorem pr_finH : pr.finH = finH := by rw [pr_eq]; rfl
theorem pr_guard : pr.guard = guardOf := by rw [pr_eq]; rfl
theorem pr_fin : pr.fin = finV := by rw [pr_eq]; rfl
theorem pr_round : pr.round = roundEnd := by rw [pr_eq]; rfl
def trivEv (op : MOp) (tm : List LV) : LV :=
  match op with
  | .mov x => x.ev tm
  | _ => .undef
noncomputable def pureEv (op : MOp) (tm : List LV) : Option LV :=
  match op with
  | .pick c a b => pr.pick (c.ev tm) (a.ev tm) (b.ev tm)
  | .bin op x y => pr.bin op (x.ev tm) (y.ev tm)
  | .eqB neg x y => pr.eqB neg (x.ev tm) (y.ev tm)
  | .eqNil kind neg x => pr.eqNil kind neg (x.ev tm)
  | .eqS sh neg x y => pr.eqS sh neg (x.ev tm) (y.ev tm)
  | .un op x => pr.un op (x.ev tm)
  | .conv k x => pr.conv k (x.ev tm)
  | .build z parts => pr.parts z (parts.map fun p => (p.1, p.2.ev tm))
  | .mkIface t x => pr.iface t (x.ev tm)
  | .assert t ok z x => pr.assert t ok z (x.ev tm)
  | .nilCheck x => pr.nilCheck (x.ev tm)
  | .fieldAddr f off x => pr.fieldAddr f off (x.ev tm)
  | .field f off sz ag x => pr.field f off sz ag (x.ev tm)
  | .idxAddr n esz x i => pr.idxAddr n esz (x.ev tm) (i.ev tm)
  | .idxStr x i => pr.idxStr (x.ev tm) (i.ev tm)
  | .idxArr n esz ag x i => pr.idxArr n esz ag (x.ev tm) (i.ev tm)
  | .slc esz x lo hi => pr.slc esz (x.ev tm) (lo.map (·.ev tm)) (hi.map (·.ev tm))
  | .slc0 x => pr.slc0 (x.ev tm)
  | .mkFunc f caps => pr.mkFunc f (caps.map (·.ev tm))
  | .mkMth f x => pr.mkMth f (x.ev tm)
  | .extract x i => pr.extract (x.ev tm) i
  | .len s x => pr.len s (x.ev tm)
  | .minmax mx x rest => pr.minmax mx (x.ev tm) (rest.map (·.ev tm))
  | .box x => pr.box (x.ev tm)
  | .bsl z n parts => pr.bsl z n (parts.map fun p => (p.1, p.2.ev tm))
  | _ => none
noncomputable def readEv (g : Tab) (op : MOp) (tm : List LV) (sl : Slots) : Option LV :=
  match op with
  | .load sz ag x => pr.load sz ag sl (x.ev tm)
  | .slcArr n x lo hi => pr.slcArr n sl (x.ev tm) (lo.map (·.ev tm)) (hi.map (·.ev tm))
  | .b2s x => pr.b2s sl (x.ev tm)
  | .call f args => pr.call g f sl (args.map (·.ev tm))
  | .callv x args => pr.callv g sl (x.ev tm) (args.map (·.ev tm))
  | .mapGet ks z ok x k => pr.mapGet ks z ok sl (x.ev tm) (k.ev tm)
  | .inlR f args => pr.inlR g f sl (args.map (·.ev tm))
  | _ => none
noncomputable def createEv (g : Tab) (op : MOp) (d : Nat) (tm : List LV) (sl : Slots) : Option (LV × Slots) :=
  match op with
  | .alloc z => pr.alloc z d sl
  | .nilT sz => pr.nilT sz d sl
  | .boxM x => pr.boxM (x.ev tm) d sl
  | .bslM n parts => pr.bslM n (parts.map fun p => (p.1, p.2.ev tm)) d sl
  | .mkSl len cap => pr.mkSl d sl (len.ev tm) (cap.ev tm)
  | .s2b x => pr.s2b d sl (x.ev tm)
  | .callFr f args => pr.callFr g f d sl (args.map (·.ev tm))
  | .mapNew => pr.mapNew d sl
  | _ => none
noncomputable def writeEv (g : Tab) (op : MOp) (d : Nat) (tm : List LV) (sl : Slots) : Option (LV × Slots) :=
  match op with
  | .store sz ag x y => pr.store sz ag sl (x.ev tm) (y.ev tm)
  | .append esz bytes x y => pr.append esz bytes d sl (x.ev tm) (y.ev tm)
  | .copy x y => pr.copy sl (x.ev tm) (y.ev tm)
  | .callRw f args => pr.callRw g f sl (args.map (·.ev tm))
  | .bslT z n parts => pr.bslT z n (parts.map fun p => (p.1, p.2.ev tm)) d sl
  | .mapIns ks x k v => pr.mapIns ks sl (x.ev tm) (k.ev tm) (v.ev tm)
  | _ => none
noncomputable def heapEv (g : Tab) (op : MOp) (tm : List LV) (sl : Slots) : Option (LV × Slots) :=
  match op with
  | .inl f args => pr.inl g f sl (args.map (·.ev tm))
  | .boxH k x => pr.boxH k sl (x.ev tm)
  | .mapNewH k => pr.mapNewH k sl
  | .appH k esz bytes x y => pr.appH k esz bytes sl (x.ev tm) (y.ev tm)
  | .mapPut ks x k v => pr.mapPut ks sl (x.ev tm) (k.ev tm) (v.ev tm)
  | .mapDel ks x k => pr.mapDel ks sl (x.ev tm) (k.ev tm)
  | _ => none
inductive Cls where | triv | pure | read | create | write | heap
  deriving DecidableEq, Repr
def MOp.cls : MOp → Cls
  | .mov _ => .triv
  | .load .. | .slcArr .. | .b2s .. | .call .. | .callv .. | .mapGet .. | .inlR .. => .read
  | .alloc .. | .nilT .. | .boxM .. | .bslM .. | .mkSl .. | .s2b .. | .callFr .. | .mapNew => .create
  | .store .. | .append .. | .copy .. | .callRw .. | .bslT .. | .mapIns .. => .write
  | .inl .. | .boxH .. | .mapNewH .. | .appH .. | .mapPut .. | .mapDel .. => .heap
  | _ => .pure
def putT (tm : List LV) (d : Option Nat) (v : LV) : List LV :=
  match d with
  | some d => tm.set d v
  | none => tm
noncomputable def opEv (g : Tab) (o : MOper) (tm : List LV) (sl : Slots) : Option (LV × Slots) :=
  match o.op.cls with
  | .triv => some (trivEv o.op tm, sl)
  | .pure => (pureEv o.op tm).map fun v => (v, sl)
  | .read => (readEv g o.op tm sl).map fun v => (v, sl)
  | .create => match o.dst with
    | some d => createEv g o.op d tm sl
    | none => none
  | .write => writeEv g o.op (o.dst.getD 0) tm sl
  | .heap => heapEv g o.op tm sl
noncomputable def stepEv (g : Tab) (o : MOper) (tm : List LV) (sl : Slots) : Option (List LV × Slots) :=
  match o.guard with
  | none => (opEv g o tm sl).map fun r => (putT tm o.dst r.1, r.2)
  | some (t, want) => match pr.guard (getL tm t) want with
    | some true => (opEv g o tm sl).map fun r => (putT tm o.dst r.1, r.2)
    | some false => some (putT tm o.dst .undef, sl)
    | none => none
noncomputable def opsEv (g : Tab) : List MOper → List LV → Slots → Option (List LV × Slots)
  | [], tm, sl => some (tm, sl)
  | o :: os, tm, sl => (stepEv g o tm sl).bind fun r => opsEv g os r.1 r.2
end Go.Ev

namespace Go.Ev
set_option linter.unusedVariables false
def iterN {α β : Type} (step : α → Option (α ⊕ β)) : Nat → α → Option β
  | 0, _ => none
  | n + 1, a => match step a with
    | some (.inl a') => iterN step n a'
    | some (.inr b) => some b
    | none => none
open Classical in
noncomputable def whileW {α β : Type} (step : α → Option (α ⊕ β)) (a : α) : Option β :=
  if h : ∃ b n, iterN step n a = some b then some h.choose else none
theorem iterN_det {α β : Type} {step : α → Option (α ⊕ β)} : ∀ (n m : Nat) (a : α) (b c : β), iterN step n a = some b → iterN step m a = some c → b = c
  | 0, _, _, _, _, h, _ => by simp [iterN] at h
  | _ + 1, 0, _, _, _, _, h => by simp [iterN] at h
  | n + 1, m + 1, a, b, c, h, k => by
    simp only [iterN] at h k
    cases hs : step a with
    | none => rw [hs] at h; simp at h
    | some r => cases r with
      | inl a' => rw [hs] at h k; exact iterN_det n m a' b c h k
      | inr d => rw [hs] at h k; simp at h k; rw [← h, ← k]
theorem whileW_of {α β : Type} {step : α → Option (α ⊕ β)} {a : α} {b : β} {n : Nat} (h : iterN step n a = some b) : whileW step a = some b := by
  have hh : ∃ b n, iterN step n a = some b := ⟨b, n, h⟩
  unfold whileW
  rw [dif_pos hh]
  obtain ⟨m, hm⟩ := hh.choose_spec
  rw [iterN_det m n a _ b hm h]
theorem whileW_some {α β : Type} {step : α → Option (α ⊕ β)} {a : α} {b : β} (h : whileW step a = some b) : ∃ n, iterN step n a = some b := by
  unfold whileW at h
  split at h
  · rename_i hh
    obtain ⟨m, hm⟩ := hh.choose_spec
    exact ⟨m, by rw [hm]; simpa using h⟩
  · simp at h
theorem whileW_next {α β : Type} {step : α → Option (α ⊕ β)} {a a' : α} (h : step a = some (.inl a')) : whileW step a = whileW step a' := by
  cases hr : whileW step a' with
  | some b => obtain ⟨n, hn⟩ := whileW_some hr; exact whileW_of (n := n + 1) (by simp only [iterN, h]; exact hn)
  | none =>
    cases hl : whileW step a with
    | none => rfl
    | some b =>
      obtain ⟨n, hn⟩ := whileW_some hl
      cases n with
      | zero => simp [iterN] at hn
      | succ n => simp only [iterN, h] at hn; rw [whileW_of hn] at hr; simp at hr
theorem whileW_done {α β : Type} {step : α → Option (α ⊕ β)} {a : α} {b : β} (h : step a = some (.inr b)) : whileW step a = some b :=
  whileW_of (n := 1) (by simp [iterN, h])
inductive MCode where
  | skip
  | reg (ops : List MOper) (pairs : List (Opd × Opd))
  | seq (a b : MCode)
  | cond (c : Opd) (a b : MCode)
  | block (id : Nat) (body : MCode)
  | loop (live dead : List Nat) (body : MCode)
  | exit (id : Nat)
  | ret
  | stuck
  deriving Inhabited
def assigned : MCode → List Nat
  | .skip | .exit _ | .ret | .stuck => []
  | .reg ops _ => ops.filterMap (·.dst)
  | .seq a b | .cond _ a b => assigned a ++ assigned b
  | .block _ b | .loop _ _ b => assigned b
def exitsOf : MCode → List Ex
  | .skip | .reg .. | .stuck => []
  | .seq a b | .cond _ a b => exitsOf a ++ exitsOf b
  | .block id b => (exitsOf b).filter (· ≠ .exit id)
  | .loop _ _ b => exitsOf b
  | .exit id => [.exit id]
  | .ret => [.ret]
def setMany (tm : List LV) : List Nat → Nat → List LV → List LV
  | [], _, _ => tm
  | t :: ts, i, vs => setMany (tm.set t (getL vs i)) ts (i + 1) vs
def kill (tm : List LV) : List Nat → List LV
  | [] => tm
  | t :: ts => kill (tm.set t .dead) ts
def loopOk (live dead : List Nat) (body : MCode) : Bool := (assigned body).all fun t => live.contains t || dead.contains t
open Classical in
noncomputable def condK {R : Type} (c : LV) (a b : Option R) : Option R := match c with
  | .bool true => a
  | .bool false => b
  | .anyb => if a = b then a else none
  | _ => none
def exIf {R : Type} (e e' : Ex) (a b : Option R) : Option R := if e = e' then a else b
def exK {R : Type} (e : Ex) (k : Ex → Option R) : List Ex → Option R
  | [] => none
  | e' :: l => exIf e e' (k e') (exK e k l)
def noMeet : LV → LV → Bool
  | .box _, .ptr .. => true
  | .ptr t _ _ _, .ptr u _ _ _ => decide (t ≠ u)
  | .undef, _ => true
  | _, _ => false
def pairsK {R : Type} (tm : List LV) (k : Option R) : List (Opd × Opd) → Option R
  | [] => k
  | (x, y) :: l => if noMeet (x.ev tm) (y.ev tm) then pairsK tm k l else none
noncomputable def opsK (g : Tab) {R : Type} : List MOper → List LV → Slots → (List LV → Slots → Option R) → Option R
  | [], tm, sl, k => k tm sl
  | o :: os, tm, sl, k =>
    match o.guard with
    | none => match o.op.cls with
      | .triv => opsK g os (putT tm o.dst (trivEv o.op tm)) sl k
      | .pure => (pureEv o.op tm).bind fun v => opsK g os (putT tm o.dst v) sl k
      | .read => (readEv g o.op tm sl).bind fun v => opsK g os (putT tm o.dst v) sl k
      | .create => match o.dst with
        | some d => (createEv g o.op d tm sl).bind fun r => opsK g os (tm.set d r.1) r.2 k
        | none => none
      | .write => (writeEv g o.op (o.dst.getD 0) tm sl).bind fun r => opsK g os (putT tm o.dst r.1) r.2 k
      | .heap => (heapEv g o.op tm sl).bind fun r => opsK g os (putT tm o.dst r.1) r.2 k
    | some (t, want) => (pr.guard (getL tm t) want).bind fun b => match o.op.cls with
      | .triv => (if b then some (trivEv o.op tm) else some .undef).bind fun v => opsK g os (putT tm o.dst v) sl k
      | .pure => (if b then pureEv o.op tm else some .undef).bind fun v => opsK g os (putT tm o.dst v) sl k
      | .read => (if b then readEv g o.op tm sl else some .undef).bind fun v => opsK g os (putT tm o.dst v) sl k
      | .create => match o.dst with
        | some d => (if b then createEv g o.op d tm sl else some (.undef, sl)).bind fun r => opsK g os (tm.set d r.1) r.2 k
        | none => none
      | .write => (if b then writeEv g o.op (o.dst.getD 0) tm sl else some (.undef, sl)).bind fun r => opsK g os (putT tm o.dst r.1) r.2 k
      | .heap => (if b then heapEv g o.op tm sl else some (.undef, sl)).bind fun r => opsK g os (putT tm o.dst r.1) r.2 k
noncomputable def codeK (g : Tab) {R : Type} : MCode → List LV → Slots → (Ex → List LV → Slots → Option R) → Option R
  | .skip, tm, sl, k => k .normal tm sl
  | .reg ops ps, tm, sl, k => opsK g ops tm sl fun tm sl => pairsK tm (k .normal tm sl) ps
  | .seq a b, tm, sl, k => codeK g a tm sl fun e tm sl => match e with
    | .normal => codeK g b tm sl k
    | .exit i => k (.exit i) tm sl
    | .ret => k .ret tm sl
  | .cond c a b, tm, sl, k => condK (c.ev tm) (codeK g a tm sl k) (codeK g b tm sl k)
  | .block id body, tm, sl, k => codeK g body tm sl fun e tm sl => match e with
    | .exit i => if i = id then k .normal tm sl else k (.exit i) tm sl
    | .normal => k .normal tm sl
    | .ret => k .ret tm sl
  | .loop live dead body, tm, sl, k =>
    if loopOk live dead body then
      (whileW (fun s => codeK g body (setMany (kill tm dead) live 0 s.1) s.2 fun e tm' sl' => pr.round sl e (live.map (getL tm')) sl') (live.map (getL tm), sl)).bind fun r =>
        exK r.1 (fun e => k e (setMany (kill tm dead) live 0 r.2.1) r.2.2) (exitsOf body)
    else none
  | .exit id, tm, sl, k => k (.exit id) tm sl
  | .ret, tm, sl, k => k .ret tm sl
  | .stuck, _, _, _ => none
inductive Res where
  | tmp (t : Nat)
  | cell (t sz : Nat) (ag : Bool)
  deriving Inhabited
structure MFn where
  params : Nat
  ntmps : Nat
  body : MCode
  results : List Res
  deriving Inhabited
noncomputable def resK {R : Type} (tm : List LV) (sl : Slots) (k : List LV → Option R) : List Res → List LV → Option R
  | [], vs => k vs
  | .tmp t :: l, vs => resK tm sl k l (vs ++ [getL tm t])
  | .cell t sz ag :: l, vs => (pr.load sz ag sl (getL tm t)).bind fun v => resK tm sl k l (vs ++ [v])
def slots0 (h : Option LV) : Slots := match h with
  | some v => upd noSlots 0 (.obj 0 v)
  | none => noSlots
noncomputable def fnEv (g : Tab) (c : MFn) (args : List LV) (h : Option LV) : Option (LV × Option LV) :=
  if args.length = c.params then
    codeK g c.body (args ++ List.replicate (c.ntmps - c.params) .undef) (slots0 h) fun e tm sl => match e with
      | .exit _ => none
      | .normal => resK tm sl (pr.fin h sl) c.results []
      | .ret => resK tm sl (pr.fin h sl) c.results []
  else none
noncomputable def hfnEv (g : Tab) (c : MFn) (args : List LV) (sl : Slots) : Option (LV × Slots) :=
  if args.length = c.params then
    codeK g c.body (args ++ List.replicate (c.ntmps - c.params) .undef) sl fun e tm sl => match e with
      | .exit _ => none
      | .normal => resK tm sl (pr.finH sl) c.results []
      | .ret => resK tm sl (pr.finH sl) c.results []
  else none
structure Sys where
  fns : FuncId → Option MFn
  ext : Call
noncomputable def Sys.ev (S : Sys) : Nat → Tab
  | 0 => ⟨fun _ _ _ => none, fun _ _ _ => none⟩
  | d + 1 => ⟨fun f args h => match S.fns f with
    | some c => fnEv (S.ev d) c args h
    | none => S.ext f args h, fun f args sl => match S.fns f with
    | some c => hfnEv (S.ev d) c args sl
    | none => none⟩
end Go.Ev

namespace Go.Ev
set_option linter.unusedVariables false
structure Ann where
  bx : List Nat := []       -- boxes that are written
  bytesM : List Nat := []   -- slice literals of bytes that are written
  grow : List Nat := []     -- slice literals that are appended to
  nilT : List Nat := []     -- nil slices that are appended to in a loop
  cw : List Nat := []       -- calls that write behind their first argument
  cf : List Nat := []       -- calls that hand out a new variable
  hc : List Nat := []       -- calls that work on the heap
  hr : List Nat := []       -- the same, that leave it as it was
  hs : List Nat := []       -- what is made in the heap: a temporary, its slot, and so on
  deriving Inhabited
def pairAt (d : Nat) : List Nat → Option Nat
  | t :: k :: r => if t = d then some k else pairAt d r
  | _ => none
def cVal : Value → Option LV
  | .bool b => some (.bool b)
  | .int k n => some (.int k n)
  | .string s => some (.str s.data.toList)
  | .pointer none => some .nilp
  | .slice none 0 0 => some .nils
  | .map none => some .nilm
  | .nilFunc => some .nilf
  | .nilIface => some .nili
  | _ => none
def isU8 (P : Program) (t : TypeId) : Bool := match P.underlying t with | some (.int .u8) => true | _ => false
def byteOfV : Value → Option UInt8
  | .int .u8 n => if 0 ≤ n ∧ n < 256 then some (UInt8.ofNat n.toNat) else none
  | _ => none
def dec (P : Program) : Nat → TypeId → List Value → Option LV
  | 0, _, _ => none
  | d + 1, t, cs =>
    match P.underlying t with
    | some (.struct fs) => (fs.toList.mapM fun f => dec P d f.type ((cs.drop f.offset).take (P.cellsOf f.type))).map .agg
    | some (.array n e) => if isU8 P e then (cs.mapM byteOfV).map .bytes
      else ((List.range n).mapM fun i => dec P d e ((cs.drop (i * P.cellsOf e)).take (P.cellsOf e))).map .agg
    | _ => match cs with
      | [v] => cVal v
      | _ => none
mutual
def cellsLV : LV → Option (List Value)
  | .bool b => some [.bool b]
  | .int k n => some [.int k n]
  | .str s => some [.string ⟨⟨s⟩⟩]
  | .nilp => some [.pointer none]
  | .nils => some [.slice none 0 0]
  | .nilm => some [.map none]
  | .nilf => some [.nilFunc]
  | .nili => some [.nilIface]
  | .bytes b => some (b.map fun x => .int .u8 x.toNat)
  | .agg l => cellsLVL l
  | _ => none
def cellsLVL : List LV → Option (List Value)
  | [] => some []
  | v :: l => (cellsLV v).bind fun a => (cellsLVL l).bind fun b => some (a ++ b)
end
def sameV : Value → Value → Bool
  | .bool a, .bool b => a == b
  | .int k a, .int k' b => decide (k = k') && decide (a = b)
  | .string a, .string b => decide (a.data.toList = b.data.toList)
  | .pointer none, .pointer none => true
  | .slice none 0 0, .slice none 0 0 => true
  | .map none, .map none => true
  | .nilFunc, .nilFunc => true
  | .nilIface, .nilIface => true
  | _, _ => false
def sameVs : List Value → List Value → Bool
  | [], [] => true
  | a :: l, b :: m => sameV a b && sameVs l m
  | _, _ => false
def zeroLV (P : Program) (t : TypeId) : Option LV :=
  match (P.info? t).bind (·.zero) with
  | some z => match dec P (P.types.size + 2) t z.cells.toList with
    | some v => match cellsLV v with
      | some cs => if sameVs cs z.cells.toList && decide (cs.length = P.cellsOf t) then some v else none
      | none => none
    | none => none
  | none => none
def aggV : Option Value → Bool
  | some (.agg _) => true
  | _ => false
def isZ8 (P : Program) (e : TypeId) : Bool := match (P.info? e).bind (·.zero), zeroLV P e with
  | some (.int .u8 0), some (.int .u8 0) => true
  | _, _ => false
def aggT (P : Program) (t : TypeId) : Option Bool :=
  match P.underlying t with
  | some (.struct _) | some (.array _ _) => some true
  | some _ => some false
  | none => none
def cOpd : Operand → Option Opd
  | .tmp t => some (.tmp t)
  | .const v => (cVal v).map .cst
  | .func f => some (.cst (.clo f []))
  | .global _ => none
def cOpdT (P : Program) (t : TypeId) : Operand → Option Opd
  | .const (.agg cs) => match dec P (P.types.size + 2) t cs.toList with
    | some v => match cellsLV v with
      | some ds => if sameVs ds cs.toList && v.isAgg then some (.cst v) else none
      | none => none
    | none => none
  | x => cOpd x
def isNilC (kind : Nat) : Operand → Bool
  | .const (.pointer none) => kind == 0
  | .const .nilIface => kind == 1
  | .const .nilFunc => kind == 2
  | .const (.slice none 0 0) => kind == 3
  | .const (.map none) => kind == 4
  | _ => false
def nilKind : TypeDesc → Option Nat
  | .pointer _ => some 0
  | .interface _ => some 1
  | .func .. => some 2
  | .slice _ => some 3
  | .map .. => some 4
  | _ => none
mutual
def shLen : Sh → Nat
  | .bool | .int _ | .str => 1
  | .bytes n => n
  | .agg l => shLenL l
def shLenL : List Sh → Nat
  | [] => 0
  | s :: l => shLen s + shLenL l
end
def shFields (P : Program) (g : TypeId → Option Sh) : List Field → Nat → Option (List Sh)
  | [], _ => some []
  | f :: r, off => if f.offset = off ∧ f.name ≠ "_" then
      match g f.type with
      | some s => if P.cellsOf f.type = shLen s ∧ 0 < shLen s then (shFields P g r (off + shLen s)).map (s :: ·) else none
      | none => none
    else none
def shOf (P : Program) : Nat → TypeId → Option Sh
  | 0, _ => none
  | d + 1, t => match P.underlying t with
    | some .bool => some .bool
    | some (.int k) => some (.int k)
    | some .string => some .str
    | some (.array n e) => if isU8 P e && decide (P.cellsOf e = 1) then some (.bytes n) else none
    | some (.struct fs) => if P.stoodInHeld t then none else (shFields P (shOf P d) fs.toList 0).map .agg
    | _ => none
def fieldsOk (P : Program) (fs : Array Field) (l : List LV) : Bool :=
  decide (fs.size = l.length) && (List.range fs.size).all fun i => match fs[i]?, l[i]? with
    | some f, some v => decide (f.offset = sumLen (l.take i)) && decide (P.cellsOf f.type = flatLen v) && decide (0 < flatLen v)
    | _, _ => false
def parts2 (P : Program) (ps : List (Nat × Operand)) : Option (List (Nat × Opd)) := ps.mapM fun p => (cOpd p.2).map fun x => (p.1, x)
def optM (x : Option Operand) : Option (Option Opd) := match x with
  | none => some none
  | some x => (cOpd x).map some
def keyT (P : Program) (t : TypeId) : Option (Option IntKind) := match P.underlying t with | some (.int k) => some (some k) | some .string => some none | _ => none
def cBuiltin (P : Program) (ann : Ann) (d : Nat) (b : Builtin) (ats : Array TypeId) (args : List Opd) : Option MOp :=
  match b, args with
  | .len, [x] => match (ats[0]?).bind P.underlying with
    | some .string => if ats.size = 1 then some (.len true x) else none
    | some (.slice _) => if ats.size = 1 then some (.len false x) else none
    | some (.array n _) => some (.mov (.cst (.int .i64 n)))
    | some (.pointer a) => match P.underlying a with
      | some (.array n _) => some (.mov (.cst (.int .i64 n)))
      | _ => none
    | _ => none
  | .append, [x, y] => match (ats[0]?).bind P.underlying, (ats[1]?).bind P.underlying with
    | some (.slice e), some (.slice _) | some (.slice e), some .string => if 0 < P.cellsOf e && 0 < P.bytesOf e && (zeroLV P e).isSome && ats.size == 2 then some (match pairAt d ann.hs with
      | some k => .appH k (P.cellsOf e) (P.bytesOf e) x y
      | none => .append (P.cellsOf e) (P.bytesOf e) x y) else none
    | _, _ => none
  | .delete, [x, k] => match (ats[0]?).bind P.underlying with
    | some (.map kt _) => (keyT P kt).map fun ks => .mapDel ks x k
    | _ => none
  | .copy, [x, y] => match (ats[0]?).bind P.underlying with
    | some (.slice e) => if isU8 P e && P.cellsOf e == 1 then some (.copy x y) else none
    | _ => none
  | .min, x :: r => some (.minmax false x r)
  | .max, x :: r => some (.minmax true x r)
  | _, _ => none
def cOp (P : Program) (ann : Ann) (o : Oper) : Option MOp :=
  let d := o.dst.getD 0
  match o.op with
  | .move x | .assign x =>
    match x with
    | .const (.slice none 0 0) => if ann.nilT.contains d then (match P.underlying o.type with
        | some (.slice e) => some (.nilT (P.cellsOf e))
        | _ => none) else some (.mov (.cst .nils))
    | x => (cOpdT P o.type x).map .mov
  | .pick c a b => do pure (.pick (← cOpd c) (← cOpdT P o.type a) (← cOpdT P o.type b))
  | .alloc e => if 0 < P.cellsOf e then (zeroLV P e).map .alloc else none
  | .box e x => match pairAt d ann.hs with
    | some k => (cOpdT P e x).map (.boxH k)
    | none => if ann.bx.contains d then (cOpdT P e x).map .boxM else (cOpdT P e x).map .box
  | .build t ps => do
    let z ← zeroLV P t
    let ps ← parts2 P ps.toList
    match P.underlying t, z with
    | some (.struct fs), .agg l => if fieldsOk P fs l then some (.build z ps) else none
    | some (.array n e), .agg l => if decide (l.length = n) && decide (0 < P.cellsOf e) && l.all (fun v => decide (flatLen v = P.cellsOf e)) then some (.build z ps) else none
    | some (.array n e), .bytes b => if decide (b.length = n) && isU8 P e && P.cellsOf e == 1 then some (.build z ps) else none
    | _, _ => none
  | .buildSlice t n ps => do
    let ps ← parts2 P ps.toList
    match P.underlying t with
    | some (.slice e) =>
      if n == 0 && ps.isEmpty then (if P.cellsOf e == 0 then none else some (.slc0 (.cst .nils)))
      else if n * P.cellsOf e > 16777216 || P.cellsOf e == 0 || n == 0 then none
      else if ann.bytesM.contains d then (if isZ8 P e && P.cellsOf e == 1 then some (.bslM n ps) else none)
      else match zeroLV P e with
        | some z => if ann.grow.contains d then some (.bslT z n ps) else some (.bsl z n ps)
        | none => none
    | _ => none
  | .load t a => do
    let ag ← aggT P t
    if 0 < P.cellsOf t && (ag || P.cellsOf t == 1) then some (.load (P.cellsOf t) ag (← cOpd a)) else none
  | .store t a x => do
    let ag ← aggT P t
    if 0 < P.cellsOf t && (ag || P.cellsOf t == 1) then some (.store (P.cellsOf t) ag (← cOpd a) (← cOpdT P t x)) else none
  | .nilCheck x => (cOpd x).map .nilCheck
  | .binOp op xt x y _ => do
    match op with
    | .eql | .neq =>
      let neg := op == .neq
      match P.underlying xt with
      | some (.int _) | some .string => some (.bin op (← cOpd x) (← cOpd y))
      | some .bool => some (.eqB neg (← cOpd x) (← cOpd y))
      | some (.pointer _) | some (.interface _) | some (.func ..) | some (.slice _) | some (.map ..) => do
        let k ← (P.underlying xt).bind nilKind
        if isNilC k y then some (.eqNil k neg (← cOpd x)) else if isNilC k x then some (.eqNil k neg (← cOpd y)) else none
      | some (.struct _) | some (.array _ _) =>
        if P.eqGuardType P.depth xt then none else do some (.eqS (← shOf P 20 xt) neg (← cOpdT P xt x) (← cOpdT P xt y))
      | _ => none
    | _ => some (.bin op (← cOpd x) (← cOpd y))
  | .unOp op _ x => (cOpd x).map (.un op)
  | .convert src dst x => do
    let x ← cOpd x
    match P.underlying src, P.underlying dst with
    | some (.int _), some (.int k) => some (.conv k x)
    | some .string, some .string => some (.slc 0 x none none)
    | some (.slice e), some .string => if isU8 P e then some (.b2s x) else none
    | some .string, some (.slice e) => if isU8 P e && P.cellsOf e == 1 then some (.s2b x) else none
    | _, _ => none
  | .makeInterface t x => match P.underlying t with
    | some (.interface _) | none => none
    | _ => (cOpd x).map (.mkIface t)
  | .makeFunc (.func f) first captured => if first.size = 0 then (captured.toList.mapM cOpd).map (.mkFunc f) else
    if first.size = 1 ∧ captured.size = 0 then first[0]?.bind fun x => (cOpd x).map (.mkMth f) else none
  | .makeSlice t l c => match P.underlying t with
    | some (.slice e) => if isU8 P e && P.cellsOf e == 1 && P.bytesOf e == 1 && isZ8 P e then do some (.mkSl (← cOpd l) (← cOpd c)) else none
    | _ => none
  | .slice t x lo (some (.const (.int _ 0))) (some (.const (.int _ 0))) => do
    match lo, P.underlying t with
    | none, some (.slice e) => if 0 < P.cellsOf e then do some (.slc0 (← cOpd x)) else none
    | _, _ => none
  | .slice t x lo hi none => do
    let x ← cOpd x
    let lo ← optM lo
    let hi ← optM hi
    match P.underlying t with
    | some .string => some (.slc 0 x lo hi)
    | some (.slice e) => if 0 < P.cellsOf e then some (.slc (P.cellsOf e) x lo hi) else none
    | some (.array n e) => if isU8 P e && P.cellsOf e == 1 then some (.slcArr n x lo hi) else none
    | some (.pointer a) => match P.underlying a with
      | some (.array n e) => if isU8 P e && P.cellsOf e == 1 then some (.slcArr n x lo hi) else none
      | _ => none
    | _ => none
  | .fieldAddr s x f => match P.underlying s with
    | some (.struct fs) => match fs[f]? with
      | some fd => if 0 < P.cellsOf fd.type then (cOpd x).map (.fieldAddr f fd.offset) else none
      | none => none
    | _ => none
  | .field s x f => match P.underlying s with
    | some (.struct fs) => match fs[f]? with
      | some fd => do
        let ag ← aggT P fd.type
        if 0 < P.cellsOf fd.type && (ag || P.cellsOf fd.type == 1) then some (.field f fd.offset (P.cellsOf fd.type) ag (← cOpd x)) else none
      | none => none
    | _ => none
  | .indexAddr t x i => do
    let x ← cOpd x
    let i ← cOpd i
    match P.underlying t with
    | some (.array n e) => if 0 < P.cellsOf e && 1 < n then some (.idxAddr (some n) (P.cellsOf e) x i) else none
    | some (.slice e) => if 0 < P.cellsOf e then some (.idxAddr none (P.cellsOf e) x i) else none
    | _ => none
  | .index t x i => do
    let x ← cOpdT P t x
    let i ← cOpd i
    match P.underlying t with
    | some .string => some (.idxStr x i)
    | some (.array n e) => do
      let ag ← aggT P e
      if 0 < P.cellsOf e && (ag || P.cellsOf e == 1) then some (.idxArr n (P.cellsOf e) ag x i) else none
    | _ => none
  | .typeAssert x xt t ok => match P.underlying t with
    | some (.interface _) | none => none
    | _ => do
      let z ← zeroLV P t
      if z.isAgg || aggV ((P.info? t).bind (·.zero)) then none else some (.assert t ok z (← cOpd x))
  | .extract x i => (cOpd x).map fun x => .extract x i
  | .makeMap t none => match P.underlying t with
    | some (.map _ _) => some (match pairAt d ann.hs with | some k => .mapNewH k | none => .mapNew)
    | _ => none
  | .insert t x k v => match P.underlying t with
    | some (.map kt _) => do some (.mapIns (← keyT P kt) (← cOpd x) (← cOpd k) (← cOpd v))
    | _ => none
  | .mapUpdate t x k v => match P.underlying t with
    | some (.map kt _) => do some (.mapPut (← keyT P kt) (← cOpd x) (← cOpd k) (← cOpd v))
    | _ => none
  | .lookup t x k ok => match P.underlying t with
    | some (.map kt e) => do
      let ks ← keyT P kt
      let z ← zeroLV P e
      if z.isAgg || aggV ((P.info? e).bind (·.zero)) then none else some (.mapGet ks z ok (← cOpd x) (← cOpd k))
    | _ => none
  | .call { callee := .value (.func f), args, .. } => do
    let as ← args.toList.mapM cOpd
    if ann.hc.contains d then some (.inl f as) else if ann.hr.contains d then some (.inlR f as) else if ann.cw.contains d then some (.callRw f as) else if ann.cf.contains d then some (.callFr f as) else some (.call f as)
  | .call { callee := .value (.tmp t), args, .. } => do
    let as ← args.toList.mapM cOpd
    some (.callv (.tmp t) as)
  | .call { callee := .builtin b, args, argTypes } => do
    let as ← args.toList.mapM cOpd
    cBuiltin P ann d b argTypes as
  | _ => none
def cGuard (ops : Array Oper) : Option (Nat × Bool) → Option (Option (Nat × Bool))
  | none => some none
  | some (j, want) => match (ops[j]?).bind (·.dst) with
    | some t => some (some (t, want))
    | none => none
def lowDst (o : MOper) : Bool := match o.dst with | some d => decide (d < K0) | none => true
def cOper (P : Program) (ann : Ann) (ops : Array Oper) (o : Oper) : Option MOper := do
  let op ← cOp P ann o
  let gd ← cGuard ops o.guard
  match op, op.cls, o.dst with
  | _, .create, none => none
  | .append .., _, none => none
  | .bslT .., _, none => none
  | _, _, _ => if lowDst { dst := o.dst, guard := gd, op } then pure { dst := o.dst, guard := gd, op } else none
def aheadOf (ms : List Nat) (o : Oper) : Nat :=
  o.after.toList.foldl (fun s e => if Region.binds .any e then s ||| 2 ^ e.on ||| ms.getD e.on 0 else s) 0
def aheads : List Oper → List Nat → List Nat
  | [], ms => ms
  | o :: os, ms => aheads os (ms ++ [aheadOf ms o])
def MOp.opds : MOp → List Opd
  | .mov x | .un _ x | .conv _ x | .mkIface _ x | .assert _ _ _ x | .nilCheck x | .fieldAddr _ _ x | .field _ _ _ _ x | .extract x _ | .len _ x | .box x
  | .load _ _ x | .b2s x | .boxM x | .s2b x | .eqNil _ _ x | .slc0 x => [x]
  | .pick c a b => [c, a, b]
  | .bin _ x y | .eqB _ x y | .eqS _ _ x y | .idxAddr _ _ x y | .idxStr x y | .idxArr _ _ _ x y | .mkSl x y | .store _ _ x y | .append _ _ x y | .copy x y => [x, y]
  | .build _ ps | .bsl _ _ ps | .bslM _ ps | .bslT _ _ ps => ps.map (·.2)
  | .mkFunc _ cs => cs
  | .mkMth _ x => [x]
  | .slc _ x l h | .slcArr _ x l h => x :: l.toList ++ h.toList
  | .minmax _ x r => x :: r
  | .call _ as | .callRw _ as | .callFr _ as | .inl _ as | .inlR _ as => as
  | .callv x as => x :: as
  | .alloc _ | .nilT _ | .mapNew | .mapNewH _ => []
  | .boxH _ x => [x]
  | .appH _ _ _ x y | .mapDel _ x y => [x, y]
  | .mapPut _ x k v => [x, k, v]
  | .mapIns _ x k v => [x, k, v]
  | .mapGet _ _ _ x k => [x, k]
def tmpsOf (l : List Opd) : List Nat := l.filterMap fun | .tmp t => some t | _ => none
def MOper.looks (o : MOper) : List Nat := tmpsOf o.op.opds ++ (match o.guard with | some (t, _) => [t] | none => [])
def apart (x y : MOper) : Bool :=
  (match x.dst with | some d => !(y.looks.contains d) && y.dst != some d | none => true) &&
  (match y.dst with | some d => !(x.looks.contains d) | none => true)
def isR : MOp → Bool
  | .inlR .. => true
  | _ => false
def clash (x y : MOper) : Bool := match x.op.cls, y.op.cls with
  | .write, .write | .write, .read | .read, .write => true
  | .heap, .triv | .heap, .pure | .triv, .heap | .pure, .heap => false
  | .heap, _ | _, .heap => true
  | .create, _ => isR y.op && !lowDst x
  | _, .create => isR x.op && !lowDst y
  | _, _ => false
def pairOf (l : List MOper) (j i : Nat) : Option (Opd × Opd) := match l[j]?, l[i]? with
  | some { op := .load _ _ x, .. }, some { op := .store _ _ y _, .. } =>
    if (l.drop j).all (fun o => match o.dst with | some d => !(tmpsOf [x]).contains d | none => true) && (l.drop i).all (fun o => match o.dst with | some d => !(tmpsOf [y]).contains d | none => true) then some (x, y) else none
  | _, _ => none
def unlisted (ms : List Nat) (l : List MOper) (i j : Nat) : Bool := !(ms.getD i 0).testBit j && (match l[i]?, l[j]? with
  | some x, some y => clash x y
  | _, _ => false)
def pairsOf (ms : List Nat) (l : List MOper) : List (Opd × Opd) :=
  (List.range l.length).flatMap fun i => (List.range i).filterMap fun j => if unlisted ms l i j then pairOf l j i else none
def anyOrder (ms : List Nat) (l : List MOper) : Bool :=
  (List.range l.length).all fun i => (List.range i).all fun j => (ms.getD i 0).testBit j || match l[i]?, l[j]? with
    | some x, some y => apart x y && (!clash x y || (pairOf l j i).isSome)
    | _, _ => true
def backward (ops : List Oper) : Bool := (List.range ops.length).all fun i => match ops[i]? with
  | some o => o.after.toList.all fun e => !Region.binds .any e || decide (e.on < i)
  | none => true
def plainC : LV → Bool
  | .ptr .. | .arr .. | .lst .. | .mref .. | .sarr .. | .mth .. => false
  | .clo _ l => l.isEmpty
  | _ => true
def plainOp (o : MOper) : Bool := o.op.opds.all fun | .tmp _ => true | .cst v => plainC v
def cRegion (P : Program) (ann : Ann) (ops : Array Oper) (draw : Bool) : Option (List MOper × List (Opd × Opd)) := do
  let l ← ops.toList.mapM (cOper P ann ops)
  if draw then
    let ms := aheads ops.toList []
    if anyOrder ms l && backward ops.toList && l.all plainOp then some (l, pairsOf ms l) else none
  else some (l, [])
def cCode (P : Program) (ann : Ann) : List Nat → Code → Option (MCode × List Nat)
  | seen, .skip => some (.skip, seen)
  | seen, .region _ ops draw => match cRegion P ann ops draw with
    | some l => some (.reg l.1 l.2, seen ++ l.1.filterMap (·.dst))
    | none => some (.stuck, seen)
  | seen, .seq a b => (cCode P ann seen a).bind fun x => (cCode P ann x.2 b).map fun y => (.seq x.1 y.1, y.2)
  | seen, .cond c a b => (cOpd c).bind fun c => (cCode P ann seen a).bind fun x => (cCode P ann x.2 b).map fun y => (.cond c x.1 y.1, y.2)
  | seen, .block id body => (cCode P ann seen body).map fun x => (.block id x.1, x.2)
  | seen, .loop body => (cCode P ann seen body).map fun x =>
    let as := (assigned x.1).eraseDups
    (.loop (as.filter (seen.contains ·)) (as.filter (!seen.contains ·)) x.1, x.2)
  | seen, .exit id => some (.exit id, seen)
  | seen, .ret => some (.ret, seen)
  | _, _ => none
def cRes (P : Program) : ResultVar → Option Res
  | .tmp t => some (.tmp t)
  | .cell a t => do
    let ag ← aggT P t
    if 0 < P.cellsOf t && (ag || P.cellsOf t == 1) then some (.cell a (P.cellsOf t) ag) else none
def compile (P : Program) (ann : Ann) (f : Func) : Option MFn := do
  let b ← f.body
  let n := f.params.size + f.nfree
  let (c, _) ← cCode P ann (List.range n) b
  let rs ← f.results.toList.mapM (cRes P)
  if n ≤ f.ntmps then some { params := n, ntmps := f.ntmps, body := c, results := rs } else none
end Go.Ev

namespace Go.Ev
set_option linter.unusedVariables false
set_option linter.unusedSimpArgs false
structure Env where
  w : World
  cl : Nat → Nat → Prop
  ρ : Nat → Nat → Option Nat
  lim : Nat → Nat → Option Nat
  τ : Nat → Nat → Option (Option Addr × Nat)
def Env.strip (E : Env) : Env := { E with ρ := fun _ _ => none, lim := fun _ _ => none, τ := fun _ _ => none }
def Env.hs (E : Env) : Env := { E with ρ := fun t g => if K0 ≤ t then E.ρ t g else none, lim := fun _ _ => none, τ := fun _ _ => none }
def blkSize (w : World) (b : Nat) : Option Nat := match w.heap[b]? with
  | some (.cells c _ _) => some c.size
  | _ => none
def Env.at (E : Env) (a : Addr) (ds : List Value) : Prop :=
  a.spot = none ∧ ∀ i v, ds[i]? = some v → E.w.cell? ⟨a.block, a.off + i, none⟩ = some v ∧ E.cl a.block (a.off + i)
def tagCond (E : Env) (tag : Option (Nat × Nat)) (a : Option Addr) (len cap : Nat) : Prop :=
  match tag with
  | none => True
  | some (t, g) => (E.τ t g).isSome = true ∧ ∀ n, E.lim t g = some n → len ≤ n ∧ (len = n → E.τ t g = some (a, cap))
mutual
def Rep (E : Env) : LV → List Value → Prop
  | .bool b, cs => cs = [.bool b]
  | .int k n, cs => cs = [.int k n]
  | .str s, cs => cs = [.string ⟨⟨s⟩⟩]
  | .nilp, cs => cs = [.pointer none]
  | .nili, cs => cs = [.nilIface]
  | .nilf, cs => cs = [.nilFunc]
  | .nilm, cs => cs = [.map none]
  | .nils, cs => ∃ a : Option Addr, cs = [.slice a 0 0] ∧ ∀ x, a = some x → x.spot = none
  | .box v, cs => ∃ a ds, cs = [.pointer (some a)] ∧ E.at a ds ∧ Rep E.strip v ds
  | .ptr t g p o, cs => ∃ b, E.ρ t g = some b ∧ cs = [.pointer (some ⟨b, o, none⟩)]
  | .mref t g, cs => ∃ b, E.ρ t g = some b ∧ cs = [.map (some b)]
  | .sarr t g n e, cs => ∃ b cap m, E.ρ t g = some b ∧ n ≤ cap ∧ blkSize E.w b = some m ∧ cap * e ≤ m ∧ cs = [.slice (some ⟨b, 0, none⟩) n cap]
  | .arr t g p o lo n, cs => ∃ b cap m, E.ρ t g = some b ∧ n ≤ cap ∧ blkSize E.w b = some m ∧ o + lo + cap ≤ m ∧ cs = [.slice (some ⟨b, o + lo, none⟩) n cap]
  | .lst tag l, cs => ∃ a cap, cs = [.slice a l.length cap] ∧ l.length ≤ cap ∧ tagCond E tag a l.length cap ∧
      match a with
      | none => l = [] ∧ cap = 0
      | some a => ∃ ds sz, RepC E.strip l ds ∧ (∀ v ∈ l, flatLen v = sz) ∧ E.at a ds
  | .ifc t v, cs => ∃ x, cs = [.iface t x] ∧ v.isAgg = false ∧ Rep E.strip v [x]
  | .clo f caps, cs => ∃ vs : Array Value, cs = [.func (.func f) #[] vs] ∧ RepC E caps vs.toList ∧ ∀ v ∈ caps, v.isAgg = false
  | .mth f x, cs => ∃ ds : Array Value, cs = [.func (.func f) #[.agg ds] #[]] ∧ x.isAgg = true ∧ Rep E.strip x ds.toList
  | .agg l, cs => RepC E l cs
  | .bytes b, cs => cs = b.map fun x => .int .u8 (x.toNat : Int)
  | .dead, _ | .undef, _ | .tup _, _ | .fresh _, _ | .anyb, _ => False
def RepC (E : Env) : List LV → List Value → Prop
  | [], cs => cs = []
  | v :: l, cs => ∃ c1 c2, cs = c1 ++ c2 ∧ Rep E v c1 ∧ RepC E l c2
end
structure Env.le (E E' : Env) : Prop where
  cells : ∀ b i v, E.cl b i → E.w.cell? ⟨b, i, none⟩ = some v → E'.w.cell? ⟨b, i, none⟩ = some v
  cl : ∀ b i, E.cl b i → E'.cl b i
  ρ : ∀ t g b, E.ρ t g = some b → E'.ρ t g = some b
  size : ∀ t g b m, E.ρ t g = some b → blkSize E.w b = some m → blkSize E'.w b = some m
  τ : ∀ t g, (E.τ t g).isSome = true → (E'.τ t g).isSome = true
  lim : ∀ t g n', E'.lim t g = some n' → (E.τ t g).isSome = true → ∃ n, E.lim t g = some n ∧ n ≤ n' ∧ (n = n' → E'.τ t g = E.τ t g)
theorem Env.le.refl (E : Env) : E.le E := ⟨fun _ _ _ _ h => h, fun _ _ h => h, fun _ _ _ h => h, fun _ _ _ _ _ h => h, fun _ _ h => h, fun _ _ n h _ => ⟨n, h, Nat.le_refl _, fun _ => rfl⟩⟩
theorem Env.le.trans {A B C : Env} (h : A.le B) (k : B.le C) : A.le C := by
  refine ⟨fun b i v hc hv => k.cells b i v (h.cl _ _ hc) (h.cells b i v hc hv), fun b i hc => k.cl _ _ (h.cl _ _ hc), fun t g b hb => k.ρ _ _ _ (h.ρ _ _ _ hb), fun t g b m hb hm => k.size _ _ _ _ (h.ρ _ _ _ hb) (h.size _ _ _ _ hb hm), fun t g ht => k.τ _ _ (h.τ _ _ ht), ?_⟩
  intro t g n' hn ht
  obtain ⟨n1, h1, h2, h3⟩ := k.lim t g n' hn (h.τ _ _ ht)
  obtain ⟨n0, g1, g2, g3⟩ := h.lim t g n1 h1 ht
  exact ⟨n0, g1, Nat.le_trans g2 h2, fun e => by rw [h3 (by omega), g3 (by omega)]⟩
theorem Env.le.strip {E E' : Env} (h : E.le E') : E.strip.le E'.strip :=
  ⟨h.cells, h.cl, fun _ _ _ h => by simp [Env.strip] at h, fun _ _ _ _ h => by simp [Env.strip] at h, fun _ _ h => by simp [Env.strip] at h, fun _ _ _ h => by simp [Env.strip] at h⟩
theorem Env.strip_le (E : Env) : E.strip.le E :=
  ⟨fun _ _ _ _ h => h, fun _ _ h => h, fun _ _ _ h => by simp [Env.strip] at h, fun _ _ _ _ h => by simp [Env.strip] at h, fun _ _ h => by simp [Env.strip] at h, fun _ _ _ _ h => by simp [Env.strip] at h⟩
theorem Env.hs_ρ {E : Env} {t g b : Nat} (h : E.hs.ρ t g = some b) : K0 ≤ t ∧ E.ρ t g = some b := by
  simp only [Env.hs] at h
  split at h
  · exact ⟨by assumption, h⟩
  · simp at h
theorem Env.ρ_hs {E : Env} {t g : Nat} (h : K0 ≤ t) : E.hs.ρ t g = E.ρ t g := by simp only [Env.hs]; rw [if_pos h]
theorem Env.le.hs {E E' : Env} (h : E.le E') : E.hs.le E'.hs :=
  ⟨h.cells, h.cl, fun t g b hb => by rw [Env.ρ_hs (Env.hs_ρ hb).1]; exact h.ρ _ _ _ (Env.hs_ρ hb).2, fun t g b m hb hm => h.size _ _ _ _ (Env.hs_ρ hb).2 hm, fun _ _ h => by simp [Env.hs] at h, fun _ _ _ h => by simp [Env.hs] at h⟩
theorem Env.hs_le (E : Env) : E.hs.le E :=
  ⟨fun _ _ _ _ h => h, fun _ _ h => h, fun t g b hb => (Env.hs_ρ hb).2, fun t g b m hb hm => hm, fun _ _ h => by simp [Env.hs] at h, fun _ _ _ _ h => by simp [Env.hs] at h⟩
theorem Env.strip_hs (E : Env) : E.strip.le E.hs :=
  ⟨fun _ _ _ _ h => h, fun _ _ h => h, fun _ _ _ h => by simp [Env.strip] at h, fun _ _ _ _ h => by simp [Env.strip] at h, fun _ _ h => by simp [Env.strip] at h, fun _ _ _ h => by simp [Env.hs] at h⟩
theorem Env.hs_hs (E : Env) : E.hs.hs = E.hs := by unfold Env.hs; congr 1; funext t g; simp only; split <;> rfl
theorem Env.hs_strip (E : Env) : E.hs.strip = E.strip := rfl
theorem Env.strip_strip (E : Env) : E.strip.strip = E.strip := rfl
theorem Env.at_mono {E E' : Env} (h : E.le E') {a : Addr} {ds : List Value} (k : E.at a ds) : E'.at a ds :=
  ⟨k.1, fun i v hv => ⟨h.cells _ _ _ (k.2 i v hv).2 (k.2 i v hv).1, h.cl _ _ (k.2 i v hv).2⟩⟩
theorem Env.at_strip {E : Env} {a : Addr} {ds : List Value} : E.strip.at a ds ↔ E.at a ds := Iff.rfl
theorem Env.at_hs {E : Env} {a : Addr} {ds : List Value} : E.hs.at a ds ↔ E.at a ds := Iff.rfl
theorem tagCond_mono {E E' : Env} (h : E.le E') {tag : Option (Nat × Nat)} {a : Option Addr} {len cap : Nat} (k : tagCond E tag a len cap) : tagCond E' tag a len cap := by
  cases tag with
  | none => trivial
  | some x =>
    obtain ⟨t, g⟩ := x
    obtain ⟨k1, k2⟩ := k
    refine ⟨h.τ _ _ k1, fun n' hn => ?_⟩
    obtain ⟨n, h1, h2, h3⟩ := h.lim t g n' hn k1
    obtain ⟨k3, k4⟩ := k2 n h1
    exact ⟨Nat.le_trans k3 h2, fun e => by rw [h3 (by omega)]; exact k4 (by omega)⟩
mutual
theorem Rep_mono : ∀ (v : LV) (E E' : Env) (cs : List Value), E.le E' → Rep E v cs → Rep E' v cs
  | .bool _, _, _, _, _, h | .int _ _, _, _, _, _, h | .str _, _, _, _, _, h | .nilp, _, _, _, _, h | .nili, _, _, _, _, h | .nilf, _, _, _, _, h | .nilm, _, _, _, _, h | .nils, _, _, _, _, h | .bytes _, _, _, _, _, h => by simpa only [Rep] using h
  | .box v, E, E', cs, le, h => by
    simp only [Rep] at h ⊢
    obtain ⟨a, ds, h1, h2, h3⟩ := h
    exact ⟨a, ds, h1, Env.at_mono le h2, Rep_mono v _ _ _ le.strip h3⟩
  | .ptr t g p o, E, E', cs, le, h => by
    simp only [Rep] at h ⊢
    obtain ⟨b, h1, h2⟩ := h
    exact ⟨b, le.ρ _ _ _ h1, h2⟩
  | .mref t g, E, E', cs, le, h => by
    simp only [Rep] at h ⊢
    obtain ⟨b, h1, h2⟩ := h
    exact ⟨b, le.ρ _ _ _ h1, h2⟩
  | .arr t g p o lo n, E, E', cs, le, h => by
    simp only [Rep] at h ⊢
    obtain ⟨b, cap, m, h1, h2, h3, h4, h5⟩ := h
    exact ⟨b, cap, m, le.ρ _ _ _ h1, h2, le.size _ _ _ _ h1 h3, h4, h5⟩
  | .sarr t g n e, E, E', cs, le, h => by
    simp only [Rep] at h ⊢
    obtain ⟨b, cap, m, h1, h2, h3, h4, h5⟩ := h
    exact ⟨b, cap, m, le.ρ _ _ _ h1, h2, le.size _ _ _ _ h1 h3, h4, h5⟩
  | .lst tag l, E, E', cs, le, h => by
    simp only [Rep] at h ⊢
    obtain ⟨a, cap, h1, h2, h3, h4⟩ := h
    refine ⟨a, cap, h1, h2, tagCond_mono le h3, ?_⟩
    cases a with
    | none => exact h4
    | some a =>
      obtain ⟨ds, sz, h5, h6, h7⟩ := h4
      exact ⟨ds, sz, RepC_mono l _ _ _ le.strip h5, h6, Env.at_mono le h7⟩
  | .ifc t v, E, E', cs, le, h => by
    simp only [Rep] at h ⊢
    obtain ⟨x, h1, h2, h3⟩ := h
    exact ⟨x, h1, h2, Rep_mono v _ _ _ le.strip h3⟩
  | .mth f v, E, E', cs, le, h => by
    simp only [Rep] at h ⊢
    obtain ⟨x, h1, h2, h3⟩ := h
    exact ⟨x, h1, h2, Rep_mono v _ _ _ le.strip h3⟩
  | .clo f caps, E, E', cs, le, h => by
    simp only [Rep] at h ⊢
    obtain ⟨vs, h1, h2, h3⟩ := h
    exact ⟨vs, h1, RepC_mono caps _ _ _ le h2, h3⟩
  | .agg l, E, E', cs, le, h => by
    simp only [Rep] at h ⊢
    exact RepC_mono l _ _ _ le h
  | .dead, _, _, _, _, h | .undef, _, _, _, _, h | .tup _, _, _, _, _, h | .fresh _, _, _, _, _, h | .anyb, _, _, _, _, h => by simp [Rep] at h
theorem RepC_mono : ∀ (l : List LV) (E E' : Env) (cs : List Value), E.le E' → RepC E l cs → RepC E' l cs
  | [], _, _, _, _, h => by simpa only [RepC] using h
  | v :: l, E, E', cs, le, h => by
    simp only [RepC] at h ⊢
    obtain ⟨c1, c2, h1, h2, h3⟩ := h
    exact ⟨c1, c2, h1, Rep_mono v _ _ _ le h2, RepC_mono l _ _ _ le h3⟩
end
mutual
theorem Rep_len : ∀ (v : LV) (E : Env) (cs : List Value), Rep E v cs → cs.length = flatLen v
  | .bool _, _, _, h | .int _ _, _, _, h | .str _, _, _, h | .nilp, _, _, h | .nili, _, _, h | .nilf, _, _, h | .nilm, _, _, h => by simp only [Rep] at h; subst h; simp [flatLen]
  | .nils, _, _, h => by simp only [Rep] at h; obtain ⟨a, rfl, _⟩ := h; simp [flatLen]
  | .bytes _, _, _, h => by simp only [Rep] at h; subst h; simp [flatLen]
  | .box v, _, _, h => by simp only [Rep] at h; obtain ⟨a, ds, rfl, _⟩ := h; simp [flatLen]
  | .ptr .., _, _, h | .mref .., _, _, h => by simp only [Rep] at h; obtain ⟨b, _, rfl⟩ := h; simp [flatLen]
  | .arr .., _, _, h | .sarr .., _, _, h => by simp only [Rep] at h; obtain ⟨b, cap, m, _, _, _, _, rfl⟩ := h; simp [flatLen]
  | .lst .., _, _, h => by simp only [Rep] at h; obtain ⟨a, cap, rfl, _⟩ := h; simp [flatLen]
  | .ifc .., _, _, h => by simp only [Rep] at h; obtain ⟨x, rfl, _⟩ := h; simp [flatLen]
  | .mth .., _, _, h => by simp only [Rep] at h; obtain ⟨x, rfl, _⟩ := h; simp [flatLen]
  | .clo .., _, _, h => by simp only [Rep] at h; obtain ⟨x, rfl, _⟩ := h; simp [flatLen]
  | .agg l, E, cs, h => by simp only [Rep] at h; simp only [flatLen]; exact RepC_len l E cs h
  | .dead, _, _, h | .undef, _, _, h | .tup _, _, _, h | .fresh _, _, _, h | .anyb, _, _, h => by simp [Rep] at h
theorem RepC_len : ∀ (l : List LV) (E : Env) (cs : List Value), RepC E l cs → cs.length = sumLen l
  | [], _, _, h => by simp only [RepC] at h; subst h; simp [sumLen]
  | v :: l, E, cs, h => by
    simp only [RepC] at h
    obtain ⟨c1, c2, rfl, h2, h3⟩ := h
    simp [sumLen, Rep_len v E c1 h2, RepC_len l E c2 h3]
end
theorem sumLen_append (a b : List LV) : sumLen (a ++ b) = sumLen a + sumLen b := by
  induction a with
  | nil => simp [sumLen]
  | cons x a ih => simp [sumLen, ih, Nat.add_assoc]
theorem RepC_append (E : Env) : ∀ (a b : List LV) (cs : List Value), RepC E (a ++ b) cs ↔ ∃ c1 c2, cs = c1 ++ c2 ∧ RepC E a c1 ∧ RepC E b c2
  | [], b, cs => by
    simp only [List.nil_append, RepC]
    exact ⟨fun h => ⟨[], cs, rfl, rfl, h⟩, fun ⟨c1, c2, h1, h2, h3⟩ => by subst h2; simpa [h1] using h3⟩
  | x :: a, b, cs => by
    simp only [List.cons_append, RepC]
    constructor
    · rintro ⟨c1, c2, rfl, h1, h2⟩
      obtain ⟨d1, d2, rfl, h3, h4⟩ := (RepC_append E a b c2).1 h2
      exact ⟨c1 ++ d1, d2, by simp, ⟨c1, d1, rfl, h1, h3⟩, h4⟩
    · rintro ⟨c, d, rfl, ⟨c1, c2, rfl, h1, h2⟩, h3⟩
      exact ⟨c1, c2 ++ d, by simp, h1, (RepC_append E a b _).2 ⟨c2, d, rfl, h2, h3⟩⟩
theorem RepC_get {E : Env} {l : List LV} {cs : List Value} {i : Nat} {v : LV} (h : RepC E l cs) (hv : l[i]? = some v) :
    Rep E v ((cs.drop (sumLen (l.take i))).take (flatLen v)) ∧ sumLen (l.take i) + flatLen v ≤ cs.length := by
  have hi : i < l.length := by rcases Nat.lt_or_ge i l.length with h | h; exact h; simp [List.getElem?_eq_none h] at hv
  have e : l = l.take i ++ (v :: l.drop (i + 1)) := by
    conv => lhs; rw [← List.take_append_drop i l]
    congr 1
    rw [List.drop_eq_getElem_cons hi]
    congr 1
    rw [List.getElem?_eq_getElem hi] at hv
    exact Option.some.inj hv
  rw [e] at h
  obtain ⟨c1, c2, rfl, h1, h2⟩ := (RepC_append E _ _ _).1 h
  simp only [RepC] at h2
  obtain ⟨d1, d2, rfl, h3, h4⟩ := h2
  have l1 := RepC_len _ _ _ h1
  have l2 := Rep_len _ _ _ h3
  refine ⟨?_, by simp [l1, l2]⟩
  rw [← l1, List.drop_left, ← l2, List.take_left]
  exact h3
theorem RepC_set {E : Env} {l : List LV} {cs : List Value} {i : Nat} {v x : LV} {xs : List Value} (h : RepC E l cs) (hv : l[i]? = some v) (hx : Rep E x xs) (hf : flatLen v = flatLen x) :
    RepC E (l.set i x) (cs.take (sumLen (l.take i)) ++ xs ++ cs.drop (sumLen (l.take i) + xs.length)) := by
  have hi : i < l.length := by rcases Nat.lt_or_ge i l.length with h | h; exact h; simp [List.getElem?_eq_none h] at hv
  have e : l = l.take i ++ (v :: l.drop (i + 1)) := by
    conv => lhs; rw [← List.take_append_drop i l]
    congr 1
    rw [List.drop_eq_getElem_cons hi]
    congr 1
    rw [List.getElem?_eq_getElem hi] at hv
    exact Option.some.inj hv
  have e2 : l.set i x = l.take i ++ (x :: l.drop (i + 1)) := by
    rw [List.set_eq_take_append_cons_drop, if_pos hi]
  rw [e] at h
  obtain ⟨c1, c2, rfl, h1, h2⟩ := (RepC_append E _ _ _).1 h
  simp only [RepC] at h2
  obtain ⟨d1, d2, rfl, h3, h4⟩ := h2
  have l1 := RepC_len _ _ _ h1
  have l2 := Rep_len _ _ _ h3
  have l3 := Rep_len _ _ _ hx
  rw [e2, RepC_append]
  refine ⟨c1, xs ++ d2, ?_, h1, by simp only [RepC]; exact ⟨xs, d2, rfl, hx, h4⟩⟩
  rw [← l1, List.take_left, List.append_assoc]
  congr 2
  have : c1.length + xs.length = (c1 ++ d1).length := by simp; omega
  rw [this, ← List.append_assoc, List.drop_left]
def RepS (E : Env) (lv : LV) (v : Value) : Prop :=
  (lv.isAgg = true ∧ ∃ cs, v = .agg cs ∧ Rep E lv cs.toList) ∨ (lv.isAgg = false ∧ Rep E lv [v])
def RepSL (E : Env) : List LV → List Value → Prop
  | [], vs => vs = []
  | x :: l, vs => ∃ v r, vs = v :: r ∧ RepS E x v ∧ RepSL E l r
def RepV (E : Env) (lv : LV) (v : Value) : Prop := match lv with
  | .dead => True
  | .undef => v = Go.undef
  | .anyb => ∃ b, v = .bool b
  | .tup l => ∃ vs, v = .tuple vs ∧ RepSL E l vs.toList
  | lv => RepS E lv v
theorem RepS.mono {E E' : Env} (le : E.le E') {x : LV} {v : Value} (h : RepS E x v) : RepS E' x v := by
  rcases h with ⟨h1, cs, h2, h3⟩ | ⟨h1, h2⟩
  · exact .inl ⟨h1, cs, h2, Rep_mono _ _ _ _ le h3⟩
  · exact .inr ⟨h1, Rep_mono _ _ _ _ le h2⟩
theorem RepSL.mono {E E' : Env} (le : E.le E') : ∀ {l : List LV} {vs : List Value}, RepSL E l vs → RepSL E' l vs
  | [], _, h => h
  | x :: l, _, ⟨v, r, h1, h2, h3⟩ => ⟨v, r, h1, h2.mono le, RepSL.mono le h3⟩
theorem RepV.mono {E E' : Env} (le : E.le E') {x : LV} {v : Value} (h : RepV E x v) : RepV E' x v := by
  cases x with
  | dead => trivial
  | undef => exact h
  | anyb => exact h
  | tup l => obtain ⟨vs, h1, h2⟩ := h; exact ⟨vs, h1, h2.mono le⟩
  | _ => exact RepS.mono le h
theorem RepSL.len {E : Env} : ∀ {l : List LV} {vs : List Value}, RepSL E l vs → vs.length = l.length
  | [], _, h => by subst h; rfl
  | x :: l, _, ⟨v, r, h1, h2, h3⟩ => by subst h1; simp [RepSL.len h3]
theorem RepSL.get {E : Env} : ∀ {l : List LV} {vs : List Value} {i : Nat} {x : LV}, RepSL E l vs → l[i]? = some x → ∃ v, vs[i]? = some v ∧ RepS E x v
  | [], _, _, _, _, h => by simp at h
  | y :: l, _, 0, x, ⟨v, r, h1, h2, h3⟩, h => by subst h1; simp at h; subst h; exact ⟨v, by simp, h2⟩
  | y :: l, _, i + 1, x, ⟨v, r, h1, h2, h3⟩, h => by subst h1; simp at h; simpa using RepSL.get h3 h
theorem RepS.cells {E : Env} {x : LV} {v : Value} (h : RepS E x v) : Rep E x v.cells.toList := by
  rcases h with ⟨h1, cs, rfl, h3⟩ | ⟨h1, h2⟩
  · simpa [Value.cells] using h3
  · have : v.cells = #[v] := by
      cases v <;> first | rfl | (cases x <;> simp [Rep, LV.isAgg] at h2 h1)
    rw [this]; simpa using h2
theorem RepS_scalar {E : Env} {x : LV} {v : Value} (hx : x.isAgg = false) : RepS E x v ↔ Rep E x [v] := by
  simp [RepS, hx]
theorem RepV_of_RepS {E : Env} {x : LV} {v : Value} (h : RepS E x v) : RepV E x v := by
  cases x <;> first | exact h | (simp [RepS, LV.isAgg, Rep] at h)
mutual
theorem psl_rep : ∀ (v : LV) (E : Env) (cs : List Value) (v' : LV), Rep E v cs → psl v = some v' → Rep E.strip v' cs ∧ v'.isAgg = v.isAgg ∧ flatLen v' = flatLen v
  | .bool _, _, _, _, h, e | .int _ _, _, _, _, h, e | .str _, _, _, _, h, e | .nilp, _, _, _, h, e | .nili, _, _, _, h, e | .nilf, _, _, _, h, e | .nilm, _, _, _, h, e | .bytes _, _, _, _, h, e => by
    simp only [psl, Option.some.injEq] at e
    subst e
    exact ⟨by simpa only [Rep] using h, rfl, rfl⟩
  | .nils, E, cs, v', h, e => by
    simp only [psl, Option.some.injEq] at e
    subst e
    simp only [Rep] at h ⊢
    obtain ⟨a, rfl, ha⟩ := h
    refine ⟨⟨a, 0, rfl, Nat.le_refl _, trivial, ?_⟩, rfl, by simp [flatLen]⟩
    cases a with
    | none => simp
    | some a => exact ⟨[], 0, by simp [RepC], by simp, ha a rfl, by simp⟩
  | .box v, E, cs, v', h, e => by
    simp only [psl, Option.some.injEq] at e
    subst e
    exact ⟨by simpa only [Rep, Env.strip_strip, Env.at_strip] using h, rfl, rfl⟩
  | .mth f v, E, cs, v', h, e => by
    simp only [psl, Option.some.injEq] at e
    subst e
    exact ⟨by simpa only [Rep, Env.strip_strip] using h, rfl, rfl⟩
  | .ifc t v, E, cs, v', h, e => by
    simp only [psl, Option.some.injEq] at e
    subst e
    exact ⟨by simpa only [Rep, Env.strip_strip] using h, rfl, rfl⟩
  | .lst tag l, E, cs, v', h, e => by
    simp only [psl, Option.some.injEq] at e
    subst e
    simp only [Rep] at h ⊢
    obtain ⟨a, cap, h1, h2, h3, h4⟩ := h
    exact ⟨⟨a, cap, h1, h2, trivial, by simpa only [Env.strip_strip, Env.at_strip] using h4⟩, rfl, by simp [flatLen]⟩
  | .clo f caps, E, cs, v', h, e => by
    simp only [psl] at e
    cases hc : pslL caps with
    | none => rw [hc] at e; simp at e
    | some l =>
      rw [hc] at e
      simp only [Option.map_some, Option.some.injEq] at e
      subst e
      simp only [Rep] at h ⊢
      obtain ⟨vs, h1, h2, h3⟩ := h
      obtain ⟨g1, g2, g3⟩ := pslL_rep caps E _ l h2 hc
      exact ⟨⟨vs, h1, g1, g3 h3⟩, rfl, by simp [flatLen]⟩
  | .agg l, E, cs, v', h, e => by
    simp only [psl] at e
    cases hc : pslL l with
    | none => rw [hc] at e; simp at e
    | some l' =>
      rw [hc] at e
      simp only [Option.map_some, Option.some.injEq] at e
      subst e
      simp only [Rep] at h ⊢
      obtain ⟨g1, g2, g3⟩ := pslL_rep l E _ l' h hc
      exact ⟨g1, rfl, by simp only [flatLen]; exact g2⟩
  | .dead, _, _, _, h, _ | .undef, _, _, _, h, _ | .tup _, _, _, _, h, _ | .fresh _, _, _, _, h, _ | .anyb, _, _, _, h, _ => by simp [Rep] at h
  | .ptr .., _, _, _, _, e | .arr .., _, _, _, _, e | .mref .., _, _, _, _, e | .sarr .., _, _, _, _, e => by simp [psl] at e
theorem pslL_rep : ∀ (l : List LV) (E : Env) (cs : List Value) (l' : List LV), RepC E l cs → pslL l = some l' → RepC E.strip l' cs ∧ sumLen l' = sumLen l ∧ ((∀ v ∈ l, v.isAgg = false) → ∀ v ∈ l', v.isAgg = false)
  | [], E, cs, l', h, e => by
    simp only [pslL, Option.some.injEq] at e
    subst e
    exact ⟨by simpa only [RepC] using h, rfl, fun h => h⟩
  | v :: l, E, cs, l', h, e => by
    simp only [pslL] at e
    cases h1 : psl v with
    | none => rw [h1] at e; simp at e
    | some a =>
      rw [h1] at e
      cases h2 : pslL l with
      | none => rw [h2] at e; simp at e
      | some b =>
        rw [h2] at e
        simp only [Option.bind_some, Option.some.injEq] at e
        subst e
        simp only [RepC] at h ⊢
        obtain ⟨c1, c2, rfl, g1, g2⟩ := h
        obtain ⟨k1, k2, k3⟩ := psl_rep v E c1 a g1 h1
        obtain ⟨m1, m2, m3⟩ := pslL_rep l E c2 b g2 h2
        refine ⟨⟨c1, c2, rfl, k1, m1⟩, by simp [sumLen, k3, m2], fun hh x hx => ?_⟩
        rcases List.mem_cons.1 hx with rfl | hx
        · rw [k2]; exact hh v (by simp)
        · exact m3 (fun y hy => hh y (by simp [hy])) x hx
end
theorem psl_repS {E : Env} {v v' : LV} {x : Value} (h : RepS E v x) (e : psl v = some v') : RepS E.strip v' x ∧ v'.isAgg = v.isAgg ∧ flatLen v' = flatLen v := by
  rcases h with ⟨h1, cs, rfl, h3⟩ | ⟨h1, h2⟩
  · obtain ⟨g1, g2, g3⟩ := psl_rep _ _ _ _ h3 e
    exact ⟨.inl ⟨by rw [g2, h1], cs, rfl, g1⟩, g2, g3⟩
  · obtain ⟨g1, g2, g3⟩ := psl_rep _ _ _ _ h2 e
    exact ⟨.inr ⟨by rw [g2, h1], g1⟩, g2, g3⟩
mutual
theorem pslG_rep : ∀ (v : LV) (E : Env) (cs : List Value) (v' : LV), Rep E v cs → pslG v = some v' → Rep E.hs v' cs ∧ v'.isAgg = v.isAgg ∧ flatLen v' = flatLen v
  | .bool _, _, _, _, h, e | .int _ _, _, _, _, h, e | .str _, _, _, _, h, e | .nilp, _, _, _, h, e | .nili, _, _, _, h, e | .nilf, _, _, _, h, e | .nilm, _, _, _, h, e | .bytes _, _, _, _, h, e | .nils, _, _, _, h, e => by
    simp only [pslG, Option.some.injEq] at e
    subst e
    exact ⟨by simpa only [Rep] using h, rfl, rfl⟩
  | .ptr t g p o, E, cs, v', h, e => by
    simp only [pslG] at e
    split at e
    case isFalse => simp at e
    rename_i ht
    simp only [Option.some.injEq] at e
    subst e
    simp only [Rep] at h ⊢
    obtain ⟨b, h1, h2⟩ := h
    exact ⟨⟨b, by simp only [Env.hs]; rw [if_pos ht]; exact h1, h2⟩, by trivial, by first | trivial | simp [flatLen]⟩
  | .mref t g, E, cs, v', h, e => by
    simp only [pslG] at e
    split at e
    case isFalse => simp at e
    rename_i ht
    simp only [Option.some.injEq] at e
    subst e
    simp only [Rep] at h ⊢
    obtain ⟨b, h1, h2⟩ := h
    exact ⟨⟨b, by simp only [Env.hs]; rw [if_pos ht]; exact h1, h2⟩, by trivial, by first | trivial | simp [flatLen]⟩
  | .sarr t g n z, E, cs, v', h, e => by
    simp only [pslG] at e
    split at e
    case isFalse => simp at e
    rename_i ht
    simp only [Option.some.injEq] at e
    subst e
    simp only [Rep] at h ⊢
    obtain ⟨b, cap, m, h1, h2⟩ := h
    exact ⟨⟨b, cap, m, by simp only [Env.hs]; rw [if_pos ht]; exact h1, h2⟩, by trivial, by first | trivial | simp [flatLen]⟩
  | .box v, E, cs, v', h, e => by
    simp only [pslG, Option.some.injEq] at e
    subst e
    exact ⟨by simpa only [Rep, Env.hs_strip, Env.at_hs] using h, rfl, rfl⟩
  | .mth f v, E, cs, v', h, e => by
    simp only [pslG, Option.some.injEq] at e
    subst e
    exact ⟨by simpa only [Rep, Env.hs_strip] using h, rfl, rfl⟩
  | .ifc t v, E, cs, v', h, e => by
    simp only [pslG, Option.some.injEq] at e
    subst e
    exact ⟨by simpa only [Rep, Env.hs_strip] using h, rfl, rfl⟩
  | .lst tag l, E, cs, v', h, e => by
    simp only [pslG, Option.some.injEq] at e
    subst e
    simp only [Rep] at h ⊢
    obtain ⟨a, cap, h1, h2, h3, h4⟩ := h
    exact ⟨⟨a, cap, h1, h2, trivial, by simpa only [Env.hs_strip, Env.at_hs] using h4⟩, rfl, by simp [flatLen]⟩
  | .clo f caps, E, cs, v', h, e => by
    simp only [pslG] at e
    cases hc : pslGL caps with
    | none => rw [hc] at e; simp at e
    | some l =>
      rw [hc] at e
      simp only [Option.map_some, Option.some.injEq] at e
      subst e
      simp only [Rep] at h ⊢
      obtain ⟨vs, h1, h2, h3⟩ := h
      obtain ⟨g1, g2, g3⟩ := pslGL_rep caps E _ l h2 hc
      exact ⟨⟨vs, h1, g1, g3 h3⟩, rfl, by simp [flatLen]⟩
  | .agg l, E, cs, v', h, e => by
    simp only [pslG] at e
    cases hc : pslGL l with
    | none => rw [hc] at e; simp at e
    | some l' =>
      rw [hc] at e
      simp only [Option.map_some, Option.some.injEq] at e
      subst e
      simp only [Rep] at h ⊢
      obtain ⟨g1, g2, g3⟩ := pslGL_rep l E _ l' h hc
      exact ⟨g1, rfl, by simp only [flatLen]; exact g2⟩
  | .dead, _, _, _, h, _ | .undef, _, _, _, h, _ | .tup _, _, _, _, h, _ | .fresh _, _, _, _, h, _ | .anyb, _, _, _, h, _ => by simp [Rep] at h
  | .arr .., _, _, _, _, e => by simp [pslG] at e
theorem pslGL_rep : ∀ (l : List LV) (E : Env) (cs : List Value) (l' : List LV), RepC E l cs → pslGL l = some l' → RepC E.hs l' cs ∧ sumLen l' = sumLen l ∧ ((∀ v ∈ l, v.isAgg = false) → ∀ v ∈ l', v.isAgg = false)
  | [], E, cs, l', h, e => by
    simp only [pslGL, Option.some.injEq] at e
    subst e
    exact ⟨by simpa only [RepC] using h, rfl, fun h => h⟩
  | v :: l, E, cs, l', h, e => by
    simp only [pslGL] at e
    cases h1 : pslG v with
    | none => rw [h1] at e; simp at e
    | some a =>
      rw [h1] at e
      cases h2 : pslGL l with
      | none => rw [h2] at e; simp at e
      | some b =>
        rw [h2] at e
        simp only [Option.bind_some, Option.some.injEq] at e
        subst e
        simp only [RepC] at h ⊢
        obtain ⟨c1, c2, rfl, g1, g2⟩ := h
        obtain ⟨k1, k2, k3⟩ := pslG_rep v E c1 a g1 h1
        obtain ⟨m1, m2, m3⟩ := pslGL_rep l E c2 b g2 h2
        refine ⟨⟨c1, c2, rfl, k1, m1⟩, by simp [sumLen, k3, m2], fun hh x hx => ?_⟩
        rcases List.mem_cons.1 hx with rfl | hx
        · rw [k2]; exact hh v (by simp)
        · exact m3 (fun y hy => hh y (by simp [hy])) x hx
end
theorem pslG_repS {E : Env} {v v' : LV} {x : Value} (h : RepS E v x) (e : pslG v = some v') : RepS E.hs v' x ∧ v'.isAgg = v.isAgg ∧ flatLen v' = flatLen v := by
  rcases h with ⟨h1, cs, rfl, h3⟩ | ⟨h1, h2⟩
  · obtain ⟨g1, g2, g3⟩ := pslG_rep _ _ _ _ h3 e
    exact ⟨.inl ⟨by rw [g2, h1], cs, rfl, g1⟩, g2, g3⟩
  · obtain ⟨g1, g2, g3⟩ := pslG_rep _ _ _ _ h2 e
    exact ⟨.inr ⟨by rw [g2, h1], g1⟩, g2, g3⟩
theorem getPath_rep : ∀ (p : List Nat) (v : LV) (E : Env) (cs : List Value) (x : LV) (o : Nat), Rep E v cs → getPath v p = some (x, o) → Rep E x ((cs.drop o).take (flatLen x)) ∧ o + flatLen x ≤ cs.length
  | [], v, E, cs, x, o, h, e => by
    simp only [getPath, Option.some.injEq, Prod.mk.injEq] at e
    obtain ⟨rfl, rfl⟩ := e
    have := Rep_len _ _ _ h
    refine ⟨?_, by omega⟩
    rw [List.drop_zero, ← this, List.take_length]
    exact h
  | i :: p, v, E, cs, x, o, h, e => by
    cases v with
    | agg l =>
      simp only [getPath] at e
      cases hi : l[i]? with
      | none => rw [hi] at e; simp at e
      | some y =>
        rw [hi] at e
        simp only at e
        cases hp : getPath y p with
        | none => rw [hp] at e; simp at e
        | some r =>
          obtain ⟨x', o'⟩ := r
          rw [hp] at e
          simp only [Option.map_some, Option.some.injEq, Prod.mk.injEq] at e
          obtain ⟨rfl, rfl⟩ := e
          simp only [Rep] at h
          obtain ⟨g1, g2⟩ := RepC_get h hi
          obtain ⟨k1, k2⟩ := getPath_rep p y E _ x' o' g1 hp
          have hl : ((cs.drop (sumLen (l.take i))).take (flatLen y)).length = flatLen y := by simp; omega
          rw [hl] at k2
          refine ⟨?_, by omega⟩
          rw [List.drop_take, List.take_take, List.drop_drop] at k1
          rwa [Nat.min_eq_left (by omega)] at k1
    | bytes b =>
      cases p with
      | nil =>
        simp only [getPath] at e
        cases hi : b[i]? with
        | none => rw [hi] at e; simp at e
        | some y =>
          rw [hi] at e
          simp only [Option.map_some, Option.some.injEq, Prod.mk.injEq] at e
          obtain ⟨rfl, rfl⟩ := e
          simp only [Rep] at h
          subst h
          have hb : i < b.length := by rcases Nat.lt_or_ge i b.length with h | h; exact h; simp [List.getElem?_eq_none h] at hi
          simp only [byteLV, Rep, flatLen]
          refine ⟨?_, by simp; omega⟩
          rw [← List.map_drop, ← List.map_take, List.drop_eq_getElem_cons hb]
          rw [List.getElem?_eq_getElem hb] at hi
          simp [Option.some.inj hi]
      | cons j p => simp [getPath] at e
    | _ => simp [getPath] at e
theorem setPath_rep : ∀ (p : List Nat) (v : LV) (E : Env) (cs : List Value) (x y v' : LV) (o : Nat) (ys : List Value), Rep E v cs → getPath v p = some (x, o) → flatLen y = flatLen x → Rep E y ys → setPath v p y = some v' →
    Rep E v' (cs.take o ++ ys ++ cs.drop (o + ys.length)) ∧ flatLen v' = flatLen v ∧ v'.isAgg = (if p = [] then y.isAgg else v.isAgg)
  | [], v, E, cs, x, y, v', o, ys, h, e, hf, hy, e2 => by
    simp only [getPath, Option.some.injEq, Prod.mk.injEq] at e
    obtain ⟨rfl, rfl⟩ := e
    simp only [setPath, Option.some.injEq] at e2
    subst e2
    have l1 := Rep_len _ _ _ h
    have l2 := Rep_len _ _ _ hy
    refine ⟨?_, hf, by simp⟩
    rw [List.take_zero, List.nil_append, Nat.zero_add, List.drop_eq_nil_of_le (by omega), List.append_nil]
    exact hy
  | i :: p, v, E, cs, x, y, v', o, ys, h, e, hf, hy, e2 => by
    cases v with
    | agg l =>
      simp only [getPath] at e
      simp only [setPath] at e2
      cases hi : l[i]? with
      | none => rw [hi] at e; simp at e
      | some z =>
        rw [hi] at e e2
        simp only at e e2
        cases hp : getPath z p with
        | none => rw [hp] at e; simp at e
        | some r =>
          obtain ⟨x', o'⟩ := r
          rw [hp] at e
          simp only [Option.map_some, Option.some.injEq, Prod.mk.injEq] at e
          obtain ⟨rfl, rfl⟩ := e
          cases hs : setPath z p y with
          | none => rw [hs] at e2; simp at e2
          | some z' =>
            rw [hs] at e2
            simp only [Option.map_some, Option.some.injEq] at e2
            subst e2
            simp only [Rep] at h
            obtain ⟨g1, g2⟩ := RepC_get h hi
            obtain ⟨k1, k2⟩ := getPath_rep p z E _ x' o' g1 hp
            obtain ⟨m1, m2, m3⟩ := setPath_rep p z E _ x' y z' o' ys g1 hp hf hy hs
            have hl : ((cs.drop (sumLen (l.take i))).take (flatLen z)).length = flatLen z := by simp; omega
            have ly := Rep_len _ _ _ hy
            rw [hl] at k2
            have n1 := RepC_set h hi m1 m2.symm
            refine ⟨?_, ?_, by simp [LV.isAgg]⟩
            · simp only [Rep]
              have hlen : ((List.take o' ((cs.drop (sumLen (l.take i))).take (flatLen z)) ++ ys ++ List.drop (o' + ys.length) ((cs.drop (sumLen (l.take i))).take (flatLen z)))).length = flatLen z := by
                rw [List.length_append, List.length_append, List.length_take, List.length_drop, hl]; omega
              rw [hlen] at n1
              have e3 : List.take (sumLen (l.take i)) cs ++ (List.take o' ((cs.drop (sumLen (l.take i))).take (flatLen z)) ++ ys ++ List.drop (o' + ys.length) ((cs.drop (sumLen (l.take i))).take (flatLen z))) ++ List.drop (sumLen (l.take i) + flatLen z) cs
                  = cs.take (sumLen (l.take i) + o') ++ ys ++ cs.drop (sumLen (l.take i) + o' + ys.length) := by
                rw [List.take_take, Nat.min_eq_left (by omega), List.drop_take, List.drop_drop]
                have t1 : cs.take (sumLen (l.take i) + o') = cs.take (sumLen (l.take i)) ++ (cs.drop (sumLen (l.take i))).take o' := List.take_add
                have t2 : cs.drop (sumLen (l.take i) + o' + ys.length) = (cs.drop (sumLen (l.take i) + (o' + ys.length))).take (flatLen z - (o' + ys.length)) ++ cs.drop (sumLen (l.take i) + flatLen z) := by
                  have : cs.drop (sumLen (l.take i) + flatLen z) = (cs.drop (sumLen (l.take i) + (o' + ys.length))).drop (flatLen z - (o' + ys.length)) := by
                    rw [List.drop_drop]; congr 1; omega
                  rw [this, List.take_append_drop]; congr 1; omega
                rw [t1, t2]; simp only [List.append_assoc]
              rw [e3] at n1
              exact n1
            · have := RepC_len _ _ _ n1
              have l3 := RepC_len _ _ _ h
              have hlen : ((List.take o' ((cs.drop (sumLen (l.take i))).take (flatLen z)) ++ ys ++ List.drop (o' + ys.length) ((cs.drop (sumLen (l.take i))).take (flatLen z)))).length = flatLen z := by
                rw [List.length_append, List.length_append, List.length_take, List.length_drop, hl]; omega
              simp only [flatLen]
              rw [← this, ← l3, List.length_append, List.length_append, hlen, List.length_take, List.length_drop]
              omega
    | bytes b =>
      cases p with
      | nil =>
        simp only [getPath] at e
        cases y with
        | int k n =>
          cases k <;> try (simp [setPath] at e2; done)
          simp only [setPath] at e2
          split at e2
          · rename_i hc
            obtain ⟨hb, h0, h1⟩ := hc
            simp only [Option.some.injEq] at e2
            subst e2
            rw [List.getElem?_eq_getElem hb] at e
            simp only [Option.map_some, Option.some.injEq, Prod.mk.injEq] at e
            obtain ⟨rfl, rfl⟩ := e
            simp only [Rep] at h hy ⊢
            subst h hy
            refine ⟨?_, by simp [flatLen], by simp [LV.isAgg]⟩
            rw [List.set_eq_take_append_cons_drop, if_pos hb]
            simp only [List.map_append, List.map_cons, List.map_take, List.map_drop, List.append_assoc, List.singleton_append, List.length_cons, List.length_nil, Nat.zero_add]
            have : ((UInt8.ofNat n.toNat).toNat : Int) = n := by simp [UInt8.toNat_ofNat']; omega
            rw [this]
          · simp at e2
        | _ => simp [setPath] at e2
      | cons j p => simp [getPath] at e
    | _ => simp [getPath] at e
end Go.Ev

namespace Go.Ev
open Go.RowKit
set_option linter.unusedVariables false
set_option linter.unusedSimpArgs false
structure Ent where
  w0 : World
  cl0 : Nat → Nat → Prop
  ob : Option Nat
  hx : Nat → Prop
  ρ0 : Nat → Nat → Option Nat
def Ent.ex (X : Ent) (b : Nat) : Prop := X.ob = some b ∨ X.hx b
abbrev Ent.low (w : World) (cl : Nat → Nat → Prop) (ob : Option Nat) : Ent := ⟨w, cl, ob, fun _ => False, fun t g => if t = 0 ∧ g = 0 then ob else none⟩
theorem Ent.low_ex {w : World} {cl : Nat → Nat → Prop} {ob : Option Nat} {b : Nat} : (Ent.low w cl ob).ex b ↔ ob = some b := by simp [Ent.ex]
structure Keep (ex : Nat → Prop) (w w' : World) : Prop where
  os : w'.os = w.os
  tape : w'.tape = w.tape
  output : w'.output = w.output
  size : w.heap.size ≤ w'.heap.size
  block : ∀ k, k < w.heap.size → ¬ ex k → w'.heap[k]? = w.heap[k]?
theorem Keep.refl (ex : Nat → Prop) (w : World) : Keep ex w w := ⟨rfl, rfl, rfl, Nat.le_refl _, fun _ _ _ => rfl⟩
def ObjAt (E : Env) (b : Nat) (v : LV) : Prop :=
  ∃ cs T fr, E.w.heap[b]? = some (.cells cs T fr) ∧ (∃ ds, Rep E.hs v ds ∧ ds <+: cs.toList) ∧ (∀ i, i < cs.size → ¬ (fr.1 ≤ i ∧ i < fr.2)) ∧ ∀ i, ¬ E.cl b i
def TagAt (X : Ent) (E : Env) (a : Option Addr) (n cap sz : Nat) : Prop := match a with
  | none => n = 0 ∧ cap = 0
  | some a => a.off = 0 ∧ a.spot = none ∧ X.w0.heap.size ≤ a.block ∧ ∃ cs T fr, E.w.heap[a.block]? = some (.cells cs T fr) ∧ cap * sz ≤ cs.size ∧
      (∀ i, i < cs.size → ¬ (fr.1 ≤ i ∧ i < fr.2)) ∧ ∀ i, n * sz ≤ i → ¬ E.cl a.block i
def mvR (E : Env) : LV → Value → Prop
  | .ptr t g [] 0, v => K0 ≤ t ∧ ∃ b, E.ρ t g = some b ∧ v = .pointer (some ⟨b, 0, none⟩)
  | x, v => scV x = some v
def mRow (E : Env) : List MapEntry → List (LV × LV) → Prop
  | [], [] => True
  | e :: l, q :: m => scV q.1 = some e.key ∧ mvR E q.2 e.val ∧ mRow E l m
  | _, _ => False
theorem mvR.mono {E E' : Env} {x : LV} {v : Value} (hρ : ∀ t g b, K0 ≤ t → E.ρ t g = some b → E'.ρ t g = some b) (h : mvR E x v) : mvR E' x v := by
  unfold mvR at h ⊢
  split
  · obtain ⟨h1, b, h2, h3⟩ := h
    exact ⟨h1, b, hρ _ _ _ h1 h2, h3⟩
  · rename_i hn
    split at h
    · rename_i t g; exact absurd rfl (hn t g)
    · exact h
theorem mRow.mono {E E' : Env} (hρ : ∀ t g b, K0 ≤ t → E.ρ t g = some b → E'.ρ t g = some b) : ∀ {l : List MapEntry} {m : List (LV × LV)}, mRow E l m → mRow E' l m
  | [], [], h => trivial
  | e :: l, q :: m, ⟨h1, h2, h3⟩ => ⟨h1, h2.mono hρ, mRow.mono hρ h3⟩
  | [], _ :: _, h => h.elim
  | _ :: _, [], h => h.elim
def MapAt (E : Env) (b : Nat) (es : List (LV × LV)) : Prop :=
  ∃ ents clock, E.w.heap[b]? = some (.map ents clock) ∧ mRow E ents.toList es
def ownS (E : Env) (t : Nat) : Slot → Option Nat
  | .none _ => none
  | .mp g _ => E.ρ t g
  | .obj g _ => E.ρ t g
  | .tag g _ _ => (E.τ t g).bind fun x => x.1.map (·.block)
def slotOk (X : Ent) (E : Env) (t : Nat) : Slot → Prop
  | .none _ => True
  | .mp g es => ∃ b, E.ρ t g = some b ∧ MapAt E b es ∧ (X.w0.heap.size ≤ b ∨ X.ex b)
  | .obj g v => ∃ b, E.ρ t g = some b ∧ ObjAt E b v ∧ (X.w0.heap.size ≤ b ∨ X.ex b)
  | .tag g n sz => ∃ a cap, E.τ t g = some (a, cap) ∧ TagAt X E a n cap sz ∧ E.lim t g = some n
structure Good (X : Ent) (E : Env) (sl : Slots) : Prop where
  keep : Keep X.ex X.w0 E.w
  clOld : ∀ b i, X.cl0 b i → E.cl b i
  clNew : ∀ b i, E.cl b i → X.cl0 b i ∨ X.w0.heap.size ≤ b
  clIn : ∀ b i, E.cl b i → b < E.w.heap.size
  slots : ∀ t, slotOk X E t (sl t)
  limOnly : ∀ t g n, E.lim t g = some n → ∃ sz, sl t = .tag g n sz
  gens : ∀ t g b, E.ρ t g = some b → g ≤ (sl t).gen
  gensτ : ∀ t g, (E.τ t g).isSome = true → g ≤ (sl t).gen
  inj : ∀ t u b, ownS E t (sl t) = some b → ownS E u (sl u) = some b → t = u
  noτ : ∀ t g, K0 ≤ t → E.τ t g = none
theorem lt_of_heap {w : World} {b : Nat} {o : Obj} (h : w.heap[b]? = some o) : b < w.heap.size := by
  rcases Nat.lt_or_ge b w.heap.size with h1 | h1
  · exact h1
  · simp [Array.getElem?_eq_none h1] at h
theorem ownS_lt {X : Ent} {E : Env} {t : Nat} {s : Slot} {b : Nat} (h : slotOk X E t s) (hb : ownS E t s = some b) : b < E.w.heap.size := by
  cases s with
  | none g => simp [ownS] at hb
  | obj g v =>
    obtain ⟨b', h1, ⟨cs, T, fr, h2, _⟩, _⟩ := h
    simp only [ownS] at hb
    rw [h1] at hb
    obtain rfl := Option.some.inj hb
    exact lt_of_heap h2
  | mp g es =>
    obtain ⟨b', h1, ⟨ents, clock, h2, _⟩, _⟩ := h
    simp only [ownS] at hb
    rw [h1] at hb
    obtain rfl := Option.some.inj hb
    exact lt_of_heap h2
  | tag g n sz =>
    obtain ⟨a, cap, h1, h2, _⟩ := h
    simp only [ownS, h1, Option.bind_some] at hb
    cases a with
    | none => simp at hb
    | some a =>
      simp only [Option.map_some, Option.some.injEq] at hb
      subst hb
      obtain ⟨_, _, _, cs, T, fr, h3, _⟩ := h2
      exact lt_of_heap h3
theorem ownS_new {X : Ent} {E : Env} {t : Nat} {s : Slot} {b : Nat} (h : slotOk X E t s) (hb : ownS E t s = some b) : X.w0.heap.size ≤ b ∨ X.ex b := by
  cases s with
  | none g => simp [ownS] at hb
  | obj g v =>
    obtain ⟨b', h1, _, h2⟩ := h
    simp only [ownS] at hb
    rw [h1] at hb
    obtain rfl := Option.some.inj hb
    exact h2
  | mp g es =>
    obtain ⟨b', h1, _, h2⟩ := h
    simp only [ownS] at hb
    rw [h1] at hb
    obtain rfl := Option.some.inj hb
    exact h2
  | tag g n sz =>
    obtain ⟨a, cap, h1, h2, _⟩ := h
    simp only [ownS, h1, Option.bind_some] at hb
    cases a with
    | none => simp at hb
    | some a =>
      simp only [Option.map_some, Option.some.injEq] at hb
      subst hb
      exact .inl h2.2.2.1
theorem slotOk.mono {X : Ent} {E E' : Env} {t : Nat} {s : Slot} (h : slotOk X E t s) (le : E.le E')
    (hb : ∀ b, ownS E t s = some b → E'.w.heap[b]? = E.w.heap[b]? ∧ ∀ i, E'.cl b i → E.cl b i)
    (hρ : ∀ g, E'.ρ t g = E.ρ t g) (hτ : ∀ g, E'.τ t g = E.τ t g) (hl : ∀ g, E'.lim t g = E.lim t g) : slotOk X E' t s := by
  cases s with
  | none g => trivial
  | obj g v =>
    obtain ⟨b, h1, ⟨cs, T, fr, h2, ⟨ds, h3, h4⟩, h5, h6⟩, h7⟩ := h
    obtain ⟨k1, k2⟩ := hb b h1
    exact ⟨b, by rw [hρ, h1], ⟨cs, T, fr, by rw [k1, h2], ⟨ds, Rep_mono _ _ _ _ le.hs h3, h4⟩, h5, fun i hi => h6 i (k2 i hi)⟩, h7⟩
  | mp g es =>
    obtain ⟨b, h1, ⟨ents, clock, h2, h3⟩, h4⟩ := h
    obtain ⟨k1, k2⟩ := hb b h1
    exact ⟨b, by rw [hρ, h1], ⟨ents, clock, by rw [k1, h2], h3.mono fun t g b _ hb => le.ρ t g b hb⟩, h4⟩
  | tag g n sz =>
    obtain ⟨a, cap, h1, h2, h3⟩ := h
    refine ⟨a, cap, by rw [hτ, h1], ?_, by rw [hl, h3]⟩
    cases a with
    | none => exact h2
    | some a =>
      obtain ⟨g1, g2, g3, cs, T, fr, g4, g5, g6, g7⟩ := h2
      obtain ⟨k1, k2⟩ := hb a.block (by simp [ownS, h1])
      exact ⟨g1, g2, g3, cs, T, fr, by rw [k1, g4], g5, g6, fun i hi hc => g7 i hi (k2 i hc)⟩
theorem ownS_same {E E' : Env} {t : Nat} {s : Slot} (hρ : ∀ g, E'.ρ t g = E.ρ t g) (hτ : ∀ g, E'.τ t g = E.τ t g) : ownS E' t s = ownS E t s := by
  cases s <;> simp [ownS, hρ, hτ]
theorem Good.change {X : Ent} {E E' : Env} {sl : Slots} (h : Good X E sl) (d : Nat) (s : Slot) (le : E.le E')
    (keep : Keep X.ex X.w0 E'.w)
    (hcl : ∀ b i, E'.cl b i → E.cl b i ∨ (X.w0.heap.size ≤ b ∧ ∀ t, t ≠ d → ownS E t (sl t) ≠ some b))
    (clIn : ∀ b i, E'.cl b i → b < E'.w.heap.size)
    (hblk : ∀ t b, t ≠ d → ownS E t (sl t) = some b → E'.w.heap[b]? = E.w.heap[b]?)
    (hρ : ∀ t g, t ≠ d → E'.ρ t g = E.ρ t g) (hτ : ∀ t g, t ≠ d → E'.τ t g = E.τ t g) (hl : ∀ t g, t ≠ d → E'.lim t g = E.lim t g)
    (hg : ∀ g b, E'.ρ d g = some b → g ≤ s.gen) (hgτ : ∀ g, (E'.τ d g).isSome = true → g ≤ s.gen)
    (hlim : ∀ g n, E'.lim d g = some n → ∃ sz, s = .tag g n sz)
    (hd : slotOk X E' d s)
    (hinj : ∀ b, ownS E' d s = some b → ∀ t, t ≠ d → ownS E t (sl t) ≠ some b) (hno : (∀ t g, K0 ≤ t → E.τ t g = none) → K0 ≤ d → ∀ g, E'.τ d g = none := by exact fun n q g => n _ g q) : Good X E' (upd sl d s) := by
  refine ⟨keep, fun b i hc => le.cl _ _ (h.clOld b i hc), fun b i hc => ?_, clIn, fun t => ?_, fun t g n hn => ?_, fun t g b hb => ?_, fun t g ht => ?_, fun t u b ht hu => ?_, fun t g q => by
    by_cases e : t = d
    · subst e; exact hno h.noτ q g
    · rw [hτ t g e]; exact h.noτ t g q⟩
  · rcases hcl b i hc with h1 | ⟨h1, _⟩
    · exact h.clNew b i h1
    · exact .inr h1
  · by_cases e : t = d
    · subst e; simpa [upd] using hd
    · simp only [upd, if_neg e]
      refine (h.slots t).mono le (fun b hb => ⟨hblk t b e hb, fun i hi => ?_⟩) (fun g => hρ t g e) (fun g => hτ t g e) (fun g => hl t g e)
      rcases hcl b i hi with h1 | ⟨_, h1⟩
      · exact h1
      · exact absurd hb (h1 t e)
  · by_cases e : t = d
    · subst e; simpa [upd] using hlim g n hn
    · simp only [upd, if_neg e]; exact h.limOnly t g n (by rw [← hl t g e]; exact hn)
  · by_cases e : t = d
    · subst e; simpa [upd] using hg g b hb
    · simp only [upd, if_neg e]; exact h.gens t g b (by rw [← hρ t g e]; exact hb)
  · by_cases e : t = d
    · subst e; simpa [upd] using hgτ g ht
    · simp only [upd, if_neg e]; exact h.gensτ t g (by rw [← hτ t g e]; exact ht)
  · have f1 : ∀ v, v ≠ d → ownS E' v (upd sl d s v) = ownS E v (sl v) := fun v hv => by simp only [upd, if_neg hv]; exact ownS_same (fun g => hρ v g hv) (fun g => hτ v g hv)
    by_cases e1 : t = d <;> by_cases e2 : u = d
    · rw [e1, e2]
    · subst e1
      rw [f1 u e2] at hu
      simp only [upd, if_true] at ht
      exact absurd hu (hinj b ht u e2)
    · subst e2
      rw [f1 t e1] at ht
      simp only [upd, if_true] at hu
      exact absurd ht (hinj b hu t e1)
    · rw [f1 t e1] at ht; rw [f1 u e2] at hu; exact h.inj t u b ht hu
theorem Good.still {X : Ent} {E E' : Env} {sl : Slots} (h : Good X E sl) (le : E.le E')
    (keep : Keep X.ex X.w0 E'.w)
    (hcl : ∀ b i, E'.cl b i → E.cl b i ∨ (X.w0.heap.size ≤ b ∧ ∀ t, ownS E t (sl t) ≠ some b))
    (clIn : ∀ b i, E'.cl b i → b < E'.w.heap.size)
    (hblk : ∀ t b, ownS E t (sl t) = some b → E'.w.heap[b]? = E.w.heap[b]?)
    (hρ : E'.ρ = E.ρ) (hτ : E'.τ = E.τ) (hl : E'.lim = E.lim) : Good X E' sl := by
  refine ⟨keep, fun b i hc => le.cl _ _ (h.clOld b i hc), fun b i hc => ?_, clIn, fun t => ?_, fun t g n hn => h.limOnly t g n (by rw [← hl]; exact hn), fun t g b hb => h.gens t g b (by rw [← hρ]; exact hb), fun t g ht => h.gensτ t g (by rw [← hτ]; exact ht), fun t u b ht hu => ?_, fun t g q => by rw [hτ]; exact h.noτ t g q⟩
  · rcases hcl b i hc with h1 | ⟨h1, _⟩
    · exact h.clNew b i h1
    · exact .inr h1
  · refine (h.slots t).mono le (fun b hb => ⟨hblk t b hb, fun i hi => ?_⟩) (fun g => by rw [hρ]) (fun g => by rw [hτ]) (fun g => by rw [hl])
    rcases hcl b i hi with h1 | ⟨_, h1⟩
    · exact h1
    · exact absurd hb (h1 t)
  · rw [ownS_same (E := E) (fun g => by rw [hρ]) (fun g => by rw [hτ])] at ht hu
    exact h.inj t u b ht hu
theorem heap_alloc_old {w : World} {o : Obj} {k : Nat} (h : k < w.heap.size) : (w.alloc o).heap[k]? = w.heap[k]? := by
  show (w.heap.push o)[k]? = _
  rw [Array.getElem?_push, if_neg (by omega)]
theorem heap_alloc_new {w : World} {o : Obj} : (w.alloc o).heap[w.heap.size]? = some o := by
  show (w.heap.push o)[w.heap.size]? = _
  simp
theorem cell_of_heap {w w' : World} {b : Nat} (h : w'.heap[b]? = w.heap[b]?) (i : Nat) : w'.cell? ⟨b, i, none⟩ = w.cell? ⟨b, i, none⟩ := by
  simp [World.cell?, h]
theorem cell_cells {w : World} {b : Nat} {cs : Array Value} {T : TypeId} {fr : Nat × Nat} (h : w.heap[b]? = some (.cells cs T fr)) (i : Nat) : w.cell? ⟨b, i, none⟩ = cs[i]? := by
  simp [World.cell?, h]
theorem blkSize_of_heap {w w' : World} {b : Nat} (h : w'.heap[b]? = w.heap[b]?) : blkSize w' b = blkSize w b := by
  simp [blkSize, h]
theorem Keep.alloc {ex : Nat → Prop} {w0 w : World} (h : Keep ex w0 w) (o : Obj) : Keep ex w0 (w.alloc o) :=
  ⟨h.os, h.tape, h.output, by have := h.size; simp; omega, fun k hk he => by rw [heap_alloc_old (by have := h.size; omega)]; exact h.block k hk he⟩
theorem Keep.drew {ex : Nat → Prop} {w0 w : World} (h : Keep ex w0 w) : Keep ex w0 w.drew := ⟨h.os, h.tape, h.output, h.size, h.block⟩
def setBlk (w : World) (b : Nat) (o : Obj) : World := { w with heap := w.heap.setIfInBounds b o }
theorem setBlk_same {w : World} {b : Nat} {o : Obj} (h : b < w.heap.size) : (setBlk w b o).heap[b]? = some o := by simp [setBlk, h]
theorem setBlk_other {w : World} {b c : Nat} {o : Obj} (h : b ≠ c) : (setBlk w b o).heap[c]? = w.heap[c]? := by simp [setBlk, Array.getElem?_setIfInBounds_ne h]
theorem setBlk_size {w : World} {b : Nat} {o : Obj} : (setBlk w b o).heap.size = w.heap.size := by simp [setBlk]
theorem Keep.setBlk {ex : Nat → Prop} {w0 w : World} (h : Keep ex w0 w) {b : Nat} {o : Obj} (hb : w0.heap.size ≤ b ∨ ex b) : Keep ex w0 (setBlk w b o) :=
  ⟨h.os, h.tape, h.output, by rw [setBlk_size]; exact h.size, fun k hk he => by
    rw [setBlk_other (by rintro rfl; rcases hb with hb | hb; · omega
                         · exact he hb)]
    exact h.block k hk he⟩
theorem splice_step {α : Type} (l : List α) (p : Nat) (v : α) (vs : List α) (h : p < l.length) :
    (l.set p v).take (p + 1) ++ vs ++ (l.set p v).drop (p + 1 + vs.length) = l.take p ++ (v :: vs) ++ l.drop (p + (vs.length + 1)) := by
  rw [List.drop_set_of_lt (by omega)]
  have : (l.set p v).take (p + 1) = l.take p ++ [v] := by
    rw [List.set_eq_take_append_cons_drop, if_pos h, List.take_append]
    simp [Nat.min_eq_left (Nat.le_of_lt h), List.take_take]
  rw [this, show p + 1 + vs.length = p + (vs.length + 1) by omega]
  simp only [List.append_assoc, List.singleton_append, List.cons_append, List.nil_append]
theorem run_storeCells (P : Program) (b : Nat) (T : TypeId) (fr : Nat × Nat) (a : Addr) (ha : a.block = b) (hs : a.spot = none) :
    ∀ (vs : List Value) (i : Nat) (w : World) (cs : Array Value), w.heap[b]? = some (.cells cs T fr) → a.off + i + vs.length ≤ cs.size → (∀ j, j < cs.size → ¬ (fr.1 ≤ j ∧ j < fr.2)) → (∀ v ∈ vs, v.oneCell' = true) →
    (storeCells a vs i).run P w = .ok () (setBlk w b (.cells ((cs.toList.take (a.off + i) ++ vs ++ cs.toList.drop (a.off + i + vs.length)).toArray) T fr))
  | [], i, w, cs, h, hl, hf, hv => by
    have hlt := lt_of_heap h
    have : setBlk w b (.cells ((cs.toList.take (a.off + i) ++ [] ++ cs.toList.drop (a.off + i + ([] : List Value).length)).toArray) T fr) = w := by
      unfold setBlk
      have e : (cs.toList.take (a.off + i) ++ [] ++ cs.toList.drop (a.off + i + ([] : List Value).length)).toArray = cs := by simp
      rw [e]
      have : w.heap.setIfInBounds b (.cells cs T fr) = w.heap := by
        apply Array.ext_getElem?
        intro k
        by_cases e : b = k
        · subst e; rw [h]; simp [hlt]
        · rw [Array.getElem?_setIfInBounds_ne e]
      rw [this]
    rw [this]
    simp [storeCells]
  | v :: vs, i, w, cs, h, hl, hf, hv => by
    have hlt := lt_of_heap h
    simp only [List.length_cons] at hl
    have hadd : a.add i = ⟨b, a.off + i, none⟩ := by
      unfold Addr.add
      split
      · rename_i e; subst e; cases a; simp at ha hs ⊢; simp [ha, hs]
      · rw [ha]
    have hc : w.cell? (a.add i) = some cs[a.off + i] := by rw [hadd, cell_cells h]; simp
    have hfz : w.frozen? (a.add i) = false := by
      rw [hadd]; simp only [World.frozen?, h]
      have := hf (a.off + i) (by omega)
      simp only [Bool.and_eq_false_iff, decide_eq_false_iff_not]
      by_cases h1 : fr.1 ≤ a.off + i
      · exact .inr (fun h2 => this ⟨h1, h2⟩)
      · exact .inl h1
    have hset : w.setCell (a.add i) v = setBlk w b (.cells (cs.setIfInBounds (a.off + i) v) T fr) := by
      rw [hadd]
      unfold World.setCell setBlk
      congr 1
      apply Array.ext_getElem?
      intro k
      by_cases e : b = k
      · subst e; rw [Array.getElem?_modify, if_pos rfl, h]; simp [hlt]
      · rw [Array.getElem?_setIfInBounds_ne e, Array.getElem?_modify, if_neg e]
    have ih := run_storeCells P b T fr a ha hs vs (i + 1) (setBlk w b (.cells (cs.setIfInBounds (a.off + i) v) T fr)) (cs.setIfInBounds (a.off + i) v) (setBlk_same hlt) (by simp; omega) (by simpa using hf) (fun x hx => hv x (by simp [hx]))
    simp only [storeCells, Sem.run_bind, run_store P w (a.add i) v .plain (hv v (by simp)), hc, hfz, Bool.false_eq_true, if_false, Result.andThen_ok, hset]
    rw [ih]
    congr 1
    unfold setBlk
    congr 1
    simp only [Array.setIfInBounds_setIfInBounds]
    congr 2
    simp only [Array.toList_setIfInBounds, List.length_cons]
    rw [← Nat.add_assoc a.off i 1, splice_step _ _ _ _ (by simp; omega)]
end Go.Ev

namespace Go.Ev
open Go.RowKit
set_option linter.unusedVariables false
set_option linter.unusedSimpArgs false
def Eff (X : Ent) (E : Env) (v : LV) (sl' : Slots) (mv : Value) (w' : World) : Prop :=
  ∃ E', E.le E' ∧ E'.w = w' ∧ Good X E' sl' ∧ RepV E' v mv
variable {X : Ent} {E : Env} {sl : Slots}
theorem Eff.same (h : Good X E sl) {v : LV} {mv : Value} (hv : RepV E v mv) : Eff X E v sl mv E.w := ⟨E, Env.le.refl E, rfl, h, hv⟩
def Env.imm (E : Env) (cs : Array Value) (T : TypeId) : Env := { E with w := E.w.alloc (.cells cs T), cl := fun b i => E.cl b i ∨ b = E.w.heap.size }
theorem imm_le (h : Good X E sl) (cs : Array Value) (T : TypeId) : E.le (E.imm cs T) := by
  refine ⟨fun b i v hc hv => ?_, fun _ _ h => .inl h, fun _ _ _ h => h, fun t g b m hb hm => ?_, fun _ _ h => h, fun _ _ n h _ => ⟨n, h, Nat.le_refl _, fun _ => rfl⟩⟩
  · rw [← hv]; exact cell_of_heap (heap_alloc_old (h.clIn _ _ hc)) i
  · rw [← hm]; exact blkSize_of_heap (heap_alloc_old (by unfold blkSize at hm; split at hm; · rename_i c T' fr he; exact lt_of_heap he
                                                         · simp at hm))
theorem imm_good (h : Good X E sl) (cs : Array Value) (T : TypeId) : Good X (E.imm cs T) sl := by
  have hsz := h.keep.size
  refine h.still (imm_le h cs T) (h.keep.alloc _) (fun b i hc => ?_) (fun b i hc => ?_) (fun t b hb => heap_alloc_old (ownS_lt (h.slots t) hb)) rfl rfl rfl
  · rcases hc with hc | rfl
    · exact .inl hc
    · exact .inr ⟨hsz, fun t ht => by have := ownS_lt (h.slots t) ht; omega⟩
  · rcases hc with hc | rfl
    · have := h.clIn b i hc; simp [Env.imm]; omega
    · simp [Env.imm]
theorem imm_at (cs : Array Value) (T : TypeId) : (E.imm cs T).at ⟨E.w.heap.size, 0, none⟩ cs.toList := by
  refine ⟨rfl, fun i v hv => ⟨?_, .inr rfl⟩⟩
  show (E.w.alloc _).cell? _ = _
  rw [cell_cells heap_alloc_new]
  simpa using hv
def Env.obj (E : Env) (d g : Nat) (o : Obj) : Env := { E with w := E.w.alloc o, ρ := fun t u => if t = d ∧ u = g then some E.w.heap.size else E.ρ t u }
theorem obj_le (h : Good X E sl) {d g : Nat} (hd : ∀ b, E.ρ d g ≠ some b) (o : Obj) : E.le (E.obj d g o) := by
  refine ⟨fun b i v hc hv => ?_, fun _ _ h => h, fun t u b hb => ?_, fun t g b m hb hm => ?_, fun _ _ h => h, fun _ _ n h _ => ⟨n, h, Nat.le_refl _, fun _ => rfl⟩⟩
  · rw [← hv]; exact cell_of_heap (heap_alloc_old (h.clIn _ _ hc)) i
  · simp only [Env.obj]
    rw [if_neg (by rintro ⟨rfl, rfl⟩; exact hd b hb)]
    exact hb
  · rw [← hm]; exact blkSize_of_heap (heap_alloc_old (by unfold blkSize at hm; split at hm; · rename_i c T' fr he; exact lt_of_heap he
                                                         · simp at hm))
theorem obj_good (h : Good X E sl) {d g : Nat} (hs : (sl d).gen < g) {cs : Array Value} {T : TypeId} {fr : Nat × Nat} {v : LV} {ds : List Value} (hv : Rep E.hs v ds) (hp : ds <+: cs.toList)
    (hf : ∀ i, i < cs.size → ¬ (fr.1 ≤ i ∧ i < fr.2)) (hlim : ∀ u, E.lim d u = none) : Good X (E.obj d g (.cells cs T fr)) (upd sl d (.obj g v)) ∧ E.le (E.obj d g (.cells cs T fr)) := by
  have hsz := h.keep.size
  have hno : ∀ b, E.ρ d g ≠ some b := fun b hb => by have := h.gens d g b hb; omega
  have le := obj_le h hno (.cells cs T fr)
  refine ⟨?_, le⟩
  have hρd : (E.obj d g (.cells cs T fr)).ρ d g = some E.w.heap.size := by simp [Env.obj]
  refine h.change d _ le (h.keep.alloc _) (fun b i hc => .inl hc) (fun b i hc => by have := h.clIn b i hc; simp [Env.obj]; omega) (fun t b _ hb => heap_alloc_old (ownS_lt (h.slots t) hb))
    (fun t u ht => by simp [Env.obj, ht]) (fun _ _ _ => rfl) (fun _ _ _ => rfl) (fun u b hb => ?_) (fun u hu => ?_) (fun u n hn => ?_) ?_ (fun b hb t ht ho => ?_)
  · simp only [Env.obj] at hb
    split at hb
    · rename_i e; simp [Slot.gen, e.2]
    · have := h.gens d u b hb; simp [Slot.gen]; omega
  · have := h.gensτ d u hu; simp [Slot.gen]; omega
  · have := hlim u; simp only [Env.obj] at hn; rw [this] at hn; simp at hn
  · refine ⟨_, hρd, ⟨cs, T, fr, heap_alloc_new, ⟨ds, Rep_mono _ _ _ _ le.hs hv, hp⟩, hf, fun i hi => ?_⟩, .inl hsz⟩
    have := h.clIn _ _ hi; omega
  · simp only [ownS, hρd, Option.some.injEq] at hb
    subst hb
    have := ownS_lt (h.slots t) ho
    omega
theorem lim_none (h : Good X E sl) {d : Nat} (hs : ∀ g n sz, sl d ≠ .tag g n sz) (u : Nat) : E.lim d u = none := by
  cases e : E.lim d u with
  | none => rfl
  | some n => obtain ⟨sz, hz⟩ := h.limOnly d u n e; exact absurd hz (hs _ _ _)
theorem set_good (h : Good X E sl) {t g b : Nat} {c c' : LV} (hs : sl t = .obj g c) (hb : E.ρ t g = some b) {cs cs' : Array Value} {T : TypeId} {fr : Nat × Nat} (hh : E.w.heap[b]? = some (.cells cs T fr))
    (hz : cs'.size = cs.size) {ds : List Value} (hv : Rep E.hs c' ds) (hp : ds <+: cs'.toList) :
    E.le { E with w := setBlk E.w b (.cells cs' T fr) } ∧ Good X { E with w := setBlk E.w b (.cells cs' T fr) } (upd sl t (.obj g c')) := by
  have hlt := lt_of_heap hh
  have hsl := h.slots t
  rw [hs] at hsl
  obtain ⟨b', h1, ⟨cs0, T0, fr0, h2, h3, h4, h5⟩, h6⟩ := hsl
  rw [hb] at h1
  obtain rfl := Option.some.inj h1
  rw [hh] at h2
  obtain ⟨rfl, rfl, rfl⟩ : cs = cs0 ∧ T = T0 ∧ fr = fr0 := by injection h2 with h2; injection h2 with a b c; exact ⟨a, b, c⟩
  have ho : ownS E t (sl t) = some b := by rw [hs]; exact hb
  have le : E.le { E with w := setBlk E.w b (.cells cs' T fr) } := by
    refine ⟨fun b1 i v hc hv => ?_, fun _ _ h => h, fun _ _ _ h => h, fun t1 g1 b1 m hb1 hm => ?_, fun _ _ h => h, fun _ _ n h _ => ⟨n, h, Nat.le_refl _, fun _ => rfl⟩⟩
    · rw [← hv]; exact cell_of_heap (setBlk_other (fun e => by subst e; exact h5 i hc)) i
    · by_cases e : b = b1
      · subst e; simp only [blkSize, setBlk_same hlt, hz]; simpa [blkSize, hh] using hm
      · rw [← hm]; exact blkSize_of_heap (setBlk_other e)
  refine ⟨le, ?_⟩
  refine h.change t _ le (h.keep.setBlk h6) (fun b i hc => .inl hc) (fun b i hc => by have := h.clIn b i hc; simpa [setBlk_size] using this)
    (fun u b1 hu hb1 => setBlk_other (fun e => by subst e; exact hu (h.inj u t _ hb1 ho)))
    (fun _ _ _ => rfl) (fun _ _ _ => rfl) (fun _ _ _ => rfl) (fun u b1 hb1 => by have := h.gens t u b1 hb1; rw [hs] at this; exact this) (fun u hu => by have := h.gensτ t u hu; rw [hs] at this; exact this)
    (fun u n hn => by obtain ⟨sz, hz⟩ := h.limOnly t u n hn; rw [hs] at hz; simp at hz) ?_ (fun b1 hb1 u hu ho1 => ?_)
  · exact ⟨b, hb, ⟨cs', T, fr, setBlk_same hlt, ⟨ds, Rep_mono _ _ _ _ le.hs hv, hp⟩, by rw [hz]; exact h4, h5⟩, h6⟩
  · simp only [ownS] at hb1
    rw [hb] at hb1
    obtain rfl := Option.some.inj hb1
    exact hu (h.inj u t _ ho1 ho)
theorem mp_good (h : Good X E sl) {d g : Nat} (hs : (sl d).gen < g) (hlim : ∀ u, E.lim d u = none) : Good X (E.obj d g (.map #[] 0)) (upd sl d (.mp g [])) ∧ E.le (E.obj d g (.map #[] 0)) := by
  have hsz := h.keep.size
  have hno : ∀ b, E.ρ d g ≠ some b := fun b hb => by have := h.gens d g b hb; omega
  have le := obj_le h hno (.map #[] 0)
  refine ⟨?_, le⟩
  have hρd : (E.obj d g (.map #[] 0)).ρ d g = some E.w.heap.size := by simp [Env.obj]
  refine h.change d _ le (h.keep.alloc _) (fun b i hc => .inl hc) (fun b i hc => by have := h.clIn b i hc; simp [Env.obj]; omega) (fun t b _ hb => heap_alloc_old (ownS_lt (h.slots t) hb))
    (fun t u ht => by simp [Env.obj, ht]) (fun _ _ _ => rfl) (fun _ _ _ => rfl) (fun u b hb => ?_) (fun u hu => ?_) (fun u n hn => ?_) ?_ (fun b hb t ht ho => ?_)
  · simp only [Env.obj] at hb
    split at hb
    · rename_i e; simp [Slot.gen, e.2]
    · have := h.gens d u b hb; simp [Slot.gen]; omega
  · have := h.gensτ d u hu; simp [Slot.gen]; omega
  · have := hlim u; simp only [Env.obj] at hn; rw [this] at hn; simp at hn
  · exact ⟨_, hρd, ⟨#[], 0, heap_alloc_new, trivial⟩, .inl hsz⟩
  · simp only [ownS, hρd, Option.some.injEq] at hb
    subst hb
    have := ownS_lt (h.slots t) ho
    omega
theorem mset_good (h : Good X E sl) {t g b : Nat} {es es' : List (LV × LV)} (hs : sl t = .mp g es) (hb : E.ρ t g = some b) {ents : Array MapEntry} {clock : Nat}
    (hr : mRow E ents.toList es') :
    E.le { E with w := setBlk E.w b (.map ents clock) } ∧ Good X { E with w := setBlk E.w b (.map ents clock) } (upd sl t (.mp g es')) := by
  have hsl := h.slots t
  rw [hs] at hsl
  obtain ⟨b', h1, ⟨ents0, clock0, h2, h3⟩, h6⟩ := hsl
  rw [hb] at h1
  obtain rfl := Option.some.inj h1
  have hlt := lt_of_heap h2
  have ho : ownS E t (sl t) = some b := by rw [hs]; exact hb
  have le : E.le { E with w := setBlk E.w b (.map ents clock) } := by
    refine ⟨fun b1 i v hc hv => ?_, fun _ _ h => h, fun _ _ _ h => h, fun t1 g1 b1 m hb1 hm => ?_, fun _ _ h => h, fun _ _ n h _ => ⟨n, h, Nat.le_refl _, fun _ => rfl⟩⟩
    · by_cases e : b = b1
      · subst e; simp [World.cell?, h2] at hv
      · rw [← hv]; exact cell_of_heap (setBlk_other e) i
    · by_cases e : b = b1
      · subst e; simp [blkSize, h2] at hm
      · rw [← hm]; exact blkSize_of_heap (setBlk_other e)
  refine ⟨le, ?_⟩
  refine h.change t _ le (h.keep.setBlk h6) (fun b i hc => .inl hc) (fun b i hc => by have := h.clIn b i hc; simpa [setBlk_size] using this)
    (fun u b1 hu hb1 => setBlk_other (fun e => by subst e; exact hu (h.inj u t _ hb1 ho)))
    (fun _ _ _ => rfl) (fun _ _ _ => rfl) (fun _ _ _ => rfl) (fun u b1 hb1 => by have := h.gens t u b1 hb1; rw [hs] at this; exact this) (fun u hu => by have := h.gensτ t u hu; rw [hs] at this; exact this)
    (fun u n hn => by obtain ⟨sz, hz⟩ := h.limOnly t u n hn; rw [hs] at hz; simp at hz) ?_ (fun b1 hb1 u hu ho1 => ?_)
  · exact ⟨b, hb, ⟨ents, clock, setBlk_same hlt, mRow.mono (E := E) (E' := { E with w := setBlk E.w b (.map ents clock) }) (fun _ _ _ _ h => h) hr⟩, h6⟩
  · simp only [ownS] at hb1
    rw [hb] at hb1
    obtain rfl := Option.some.inj hb1
    exact hu (h.inj u t _ ho1 ho)
theorem drew_good (h : Good X E sl) : E.le { E with w := E.w.drew } ∧ Good X { E with w := E.w.drew } sl := by
  have le : E.le { E with w := E.w.drew } := ⟨fun _ _ _ _ h => h, fun _ _ h => h, fun _ _ _ h => h, fun _ _ _ _ _ h => h, fun _ _ h => h, fun _ _ n h _ => ⟨n, h, Nat.le_refl _, fun _ => rfl⟩⟩
  exact ⟨le, h.still le h.keep.drew (fun _ _ h => .inl h) h.clIn (fun _ _ _ => rfl) rfl rfl rfl⟩
def Env.tagNew (E : Env) (d g n sz cap : Nat) (o : Obj) : Env :=
  { E with w := E.w.alloc o, cl := fun b i => E.cl b i ∨ (b = E.w.heap.size ∧ i < n * sz),
           lim := fun t u => if t = d then (if u = g then some n else none) else E.lim t u,
           τ := fun t u => if t = d ∧ u = g then some (some ⟨E.w.heap.size, 0, none⟩, cap) else E.τ t u }
theorem tagNew_good (h : Good X E sl) {d g n sz cap : Nat} {cs : Array Value} {T : TypeId} (hsz : cap * sz ≤ cs.size)
    (hold : (sl d).gen < g ∨ ∃ m sz', sl d = .tag g m sz' ∧ m < n) (hno : ∀ g v, sl d ≠ .obj g v) (hlow : d < K0) :
    E.le (E.tagNew d g n sz cap (.cells cs T)) ∧ Good X (E.tagNew d g n sz cap (.cells cs T)) (upd sl d (.tag g n sz)) := by
  have hs0 := h.keep.size
  have le : E.le (E.tagNew d g n sz cap (.cells cs T)) := by
    refine ⟨fun b i v hc hv => ?_, fun _ _ h => .inl h, fun _ _ _ h => h, fun t g b m hb hm => ?_, fun t u ht => ?_, fun t u n' hn ht => ?_⟩
    · rw [← hv]; exact cell_of_heap (heap_alloc_old (h.clIn _ _ hc)) i
    · rw [← hm]; exact blkSize_of_heap (heap_alloc_old (by unfold blkSize at hm; split at hm; · rename_i c T' fr he; exact lt_of_heap he
                                                           · simp at hm))
    · simp only [Env.tagNew]; split
      · rfl
      · exact ht
    · simp only [Env.tagNew] at hn
      by_cases e : t = d
      · subst e
        rw [if_pos rfl] at hn
        by_cases e2 : u = g
        · subst e2
          rw [if_pos rfl] at hn
          obtain rfl := Option.some.inj hn
          rcases hold with hold | ⟨m, sz', hm1, hm2⟩
          · have := h.gensτ t u ht; omega
          · have := h.slots t
            rw [hm1] at this
            obtain ⟨a, c, k1, k2, k3⟩ := this
            exact ⟨m, k3, by omega, fun e => by omega⟩
        · rw [if_neg e2] at hn; simp at hn
      · rw [if_neg e] at hn
        exact ⟨n', hn, Nat.le_refl _, fun _ => by simp [Env.tagNew, e]⟩
  refine ⟨le, ?_⟩
  have hτd : (E.tagNew d g n sz cap (.cells cs T)).τ d g = some (some ⟨E.w.heap.size, 0, none⟩, cap) := by simp [Env.tagNew]
  have hgen : (sl d).gen ≤ g := by
    rcases hold with hold | ⟨m, sz', hm1, hm2⟩
    · omega
    · rw [hm1]; simp [Slot.gen]
  refine h.change d _ le (h.keep.alloc _) (fun b i hc => ?_) (fun b i hc => ?_) (fun t b _ hb => heap_alloc_old (ownS_lt (h.slots t) hb))
    (fun _ _ _ => rfl) (fun t u ht => by simp [Env.tagNew, ht]) (fun t u ht => by simp [Env.tagNew, ht]) (fun u b hb => ?_) (fun u hu => ?_) (fun u n' hn => ?_) ?_ (fun b hb t ht ho => ?_) (fun _ q => absurd q (by omega))
  · rcases hc with hc | ⟨rfl, _⟩
    · exact .inl hc
    · exact .inr ⟨hs0, fun t _ ht => by have := ownS_lt (h.slots t) ht; omega⟩
  · rcases hc with hc | ⟨rfl, _⟩
    · have := h.clIn b i hc; simp [Env.tagNew]; omega
    · simp [Env.tagNew]
  · have := h.gens d u b hb; simp [Slot.gen]; omega
  · simp only [Env.tagNew] at hu
    split at hu
    · rename_i e; simp [Slot.gen, e.2]
    · have := h.gensτ d u hu; simp [Slot.gen]; omega
  · simp only [Env.tagNew, if_true] at hn
    split at hn
    · rename_i e; obtain rfl := Option.some.inj hn; exact ⟨sz, by rw [e]⟩
    · simp at hn
  · refine ⟨_, cap, hτd, ⟨rfl, rfl, hs0, cs, T, _, heap_alloc_new, hsz, fun i _ h => by omega, fun i hi hc => ?_⟩, by simp [Env.tagNew]⟩
    rcases hc with hc | ⟨_, hc⟩
    · have := h.clIn _ _ hc; simp at this
    · omega
  · simp only [ownS, hτd, Option.bind_some, Option.map_some, Option.some.injEq] at hb
    subst hb
    have := ownS_lt (h.slots t) ho
    omega
theorem tagNew_at {d g n sz cap : Nat} {cs : Array Value} {T : TypeId} {ds : List Value} (hl : ds.length = n * sz) (hp : ds <+: cs.toList) : (E.tagNew d g n sz cap (.cells cs T)).at ⟨E.w.heap.size, 0, none⟩ ds := by
  refine ⟨rfl, fun i v hv => ?_⟩
  have hi : i < ds.length := by rcases Nat.lt_or_ge i ds.length with h | h; exact h; simp [List.getElem?_eq_none h] at hv
  refine ⟨?_, .inr ⟨rfl, by show 0 + i < n * sz; omega⟩⟩
  show (E.w.alloc _).cell? _ = _
  rw [cell_cells heap_alloc_new]
  obtain ⟨r, hr⟩ := hp
  have : cs[0 + i]? = cs.toList[i]? := by simp
  rw [this, ← hr, List.getElem?_append_left hi]
  exact hv
end Go.Ev

namespace Go.Ev
open Go.RowKit
set_option linter.unusedVariables false
set_option linter.unusedSimpArgs false
section reps
variable {E : Env} {a : Value}
@[simp] theorem RepV_bool {b : Bool} : RepV E (.bool b) a ↔ a = .bool b := by simp [RepV, RepS, LV.isAgg, Rep]
@[simp] theorem RepV_int {k : IntKind} {n : Int} : RepV E (.int k n) a ↔ a = .int k n := by simp [RepV, RepS, LV.isAgg, Rep]
@[simp] theorem RepV_str {s : List UInt8} : RepV E (.str s) a ↔ a = .string ⟨⟨s⟩⟩ := by simp [RepV, RepS, LV.isAgg, Rep]
@[simp] theorem RepV_nilp : RepV E .nilp a ↔ a = .pointer none := by simp [RepV, RepS, LV.isAgg, Rep]
@[simp] theorem RepV_nili : RepV E .nili a ↔ a = .nilIface := by simp [RepV, RepS, LV.isAgg, Rep]
@[simp] theorem RepV_nilf : RepV E .nilf a ↔ a = .nilFunc := by simp [RepV, RepS, LV.isAgg, Rep]
@[simp] theorem RepV_nilm : RepV E .nilm a ↔ a = .map none := by simp [RepV, RepS, LV.isAgg, Rep]
@[simp] theorem RepV_undef : RepV E .undef a ↔ a = Go.undef := Iff.rfl
theorem RepV_S {x : LV} (h : match x with | .dead | .undef | .tup _ | .anyb => False | _ => True) : RepV E x a ↔ RepS E x a := by
  cases x <;> first | (exact h.elim) | rfl
theorem RepV_sc {x : LV} (h : match x with | .dead | .undef | .tup _ | .anyb => False | _ => True) (h2 : x.isAgg = false) : RepV E x a ↔ Rep E x [a] := by
  rw [RepV_S h, RepS_scalar h2]
theorem RepV_box {v : LV} : RepV E (.box v) a ↔ ∃ ad ds, a = .pointer (some ad) ∧ E.at ad ds ∧ Rep E.strip v ds := by
  rw [RepV_sc trivial rfl]; simp [Rep]
theorem RepV_ptr {t g o : Nat} {p : List Nat} : RepV E (.ptr t g p o) a ↔ ∃ b, E.ρ t g = some b ∧ a = .pointer (some ⟨b, o, none⟩) := by
  rw [RepV_sc trivial rfl]; simp [Rep]
theorem RepV_mref {t g : Nat} : RepV E (.mref t g) a ↔ ∃ b, E.ρ t g = some b ∧ a = .map (some b) := by
  rw [RepV_sc trivial rfl]; simp [Rep]
theorem RepV_sarr {t g n e : Nat} : RepV E (.sarr t g n e) a ↔ ∃ b cap m, E.ρ t g = some b ∧ n ≤ cap ∧ blkSize E.w b = some m ∧ cap * e ≤ m ∧ a = .slice (some ⟨b, 0, none⟩) n cap := by
  simp [RepV, RepS, LV.isAgg, Rep]
theorem RepV_arr {t g o lo n : Nat} {p : List Nat} : RepV E (.arr t g p o lo n) a ↔ ∃ b cap m, E.ρ t g = some b ∧ n ≤ cap ∧ blkSize E.w b = some m ∧ o + lo + cap ≤ m ∧ a = .slice (some ⟨b, o + lo, none⟩) n cap := by
  rw [RepV_sc trivial rfl]; simp [Rep]
theorem RepV_nils : RepV E .nils a ↔ ∃ x : Option Addr, a = .slice x 0 0 ∧ ∀ y, x = some y → y.spot = none := by
  rw [RepV_sc trivial rfl]; simp [Rep]
theorem RepV_lst {tag : Option (Nat × Nat)} {l : List LV} : RepV E (.lst tag l) a ↔ ∃ ad cap, a = .slice ad l.length cap ∧ l.length ≤ cap ∧ tagCond E tag ad l.length cap ∧
      match ad with
      | none => l = [] ∧ cap = 0
      | some a => ∃ ds sz, RepC E.strip l ds ∧ (∀ v ∈ l, flatLen v = sz) ∧ E.at a ds := by
  rw [RepV_sc trivial rfl]; simp only [Rep, List.cons.injEq, and_true]; try exact Iff.rfl
theorem RepV_ifc {t : TypeId} {v : LV} : RepV E (.ifc t v) a ↔ ∃ x, a = .iface t x ∧ v.isAgg = false ∧ Rep E.strip v [x] := by
  rw [RepV_sc trivial rfl]; simp [Rep]
theorem RepV_clo {f : FuncId} {caps : List LV} : RepV E (.clo f caps) a ↔ ∃ vs : Array Value, a = .func (.func f) #[] vs ∧ RepC E caps vs.toList ∧ ∀ v ∈ caps, v.isAgg = false := by
  rw [RepV_sc trivial rfl]; simp [Rep]
theorem RepV_mth {f : FuncId} {v : LV} : RepV E (.mth f v) a ↔ ∃ ds : Array Value, a = .func (.func f) #[.agg ds] #[] ∧ v.isAgg = true ∧ Rep E.strip v ds.toList := by
  rw [RepV_sc trivial rfl]; simp [Rep]
theorem RepV_agg {l : List LV} : RepV E (.agg l) a ↔ ∃ cs, a = .agg cs ∧ RepC E l cs.toList := by
  rw [RepV_S trivial]; simp [RepS, LV.isAgg, Rep]
theorem RepV_bytes {b : List UInt8} : RepV E (.bytes b) a ↔ ∃ cs, a = .agg cs ∧ cs.toList = b.map fun x => .int .u8 (x.toNat : Int) := by
  rw [RepV_S trivial]; simp [RepS, LV.isAgg, Rep]
end reps
section ops
variable {P : Program} {E : Env} {X Y Z v : LV} {a b c : Value} {w : World}
theorem bin_int_ok {op : BinOp} {k k' : IntKind} {x y : Int} (xt : TypeId) (ox oy : Operand) (h : pBin op (.int k x) (.int k' y) = some v) :
    ∃ mv, ((do eqGuard op xt ox oy (.int k x) (.int k' y); Go.binOp op xt (.int k x) (.int k' y)) : Sem Value).run P w = .ok mv w ∧ RepV E v mv := by
  have hg : (eqGuard op xt ox oy (.int k x) (.int k' y)).run P w = .ok () w := by cases op <;> simp [eqGuard]
  simp only [Sem.run_bind, hg, Result.andThen_ok]
  simp only [pBin] at h
  by_cases hs : op = .shl ∨ op = .shr
  · rw [if_pos hs] at h
    unfold pShift at h
    split at h
    · simp at h
    · rename_i hy
      rcases hs with rfl | rfl
      all_goals
        simp only [Option.some.injEq] at h
        subst h
        simp [Go.binOp, Op.shift, hy]
  · rw [if_neg hs] at h
    split at h
    · rename_i hk
      subst hk
      cases op <;> simp only [pInt] at h <;> first
        | exact absurd (Or.inl rfl) hs
        | exact absurd (Or.inr rfl) hs
        | (split at h
           · simp at h
           · rename_i hz; simp only [Option.some.injEq] at h; subst h; simp [Go.binOp, Op.intDiv, hz])
        | (simp only [Option.some.injEq] at h; subst h; simp [Go.binOp, Op.intArith, Op.intBits, Op.intCmp, bitsOf, bne_iff_ne] <;> rfl)
        | (simp only [Option.some.injEq] at h; subst h; simp [Go.binOp, Op.intArith, Op.intBits, Op.intCmp, bitsOf, bne_iff_ne])
    · simp at h
theorem bin_str_ok {op : BinOp} {x y : List UInt8} (xt : TypeId) (ox oy : Operand) (h : pBin op (.str x) (.str y) = some v) :
    ∃ mv, ((do eqGuard op xt ox oy (.string ⟨⟨x⟩⟩) (.string ⟨⟨y⟩⟩); Go.binOp op xt (.string ⟨⟨x⟩⟩) (.string ⟨⟨y⟩⟩)) : Sem Value).run P w = .ok mv w ∧ RepV E v mv := by
  have hg : (eqGuard op xt ox oy (.string ⟨⟨x⟩⟩) (.string ⟨⟨y⟩⟩)).run P w = .ok () w := by cases op <;> simp [eqGuard]
  simp only [Sem.run_bind, hg, Result.andThen_ok]
  simp only [pBin, pStr] at h
  cases op <;> simp only at h <;> try (simp at h; done)
  · split at h
    · rename_i hl
      simp only [Option.some.injEq] at h
      subst h
      refine ⟨.string ⟨⟨x ++ y⟩⟩, ?_, by simp⟩
      rw [binOp_string_add, run_string_add_sum _ _ _ (by simpa [maxStr, ByteArray.size] using hl)]
      have := ByteArray.mk_append_mk x y
      simp only [List.toArray] at this
      first | rw [this] | (congr 2)
    · simp at h
  · simp only [Option.some.injEq] at h; subst h
    rw [binOp_string_eql]
    have e1 : (⟨⟨x⟩⟩ : ByteArray).toList = x := ByteArray.toList_mk x
    have e2 : (⟨⟨y⟩⟩ : ByteArray).toList = y := ByteArray.toList_mk y
    refine ⟨_, rfl, ?_⟩
    rw [RepV_bool, e1, e2]
    congr 1
    first | exact Bool.eq_iff_iff.2 (by simp) | exact congrArg _ (Bool.eq_iff_iff.2 (by simp))
  · simp only [Option.some.injEq] at h; subst h
    rw [binOp_string_neq]
    have e1 : (⟨⟨x⟩⟩ : ByteArray).toList = x := ByteArray.toList_mk x
    have e2 : (⟨⟨y⟩⟩ : ByteArray).toList = y := ByteArray.toList_mk y
    refine ⟨_, rfl, ?_⟩
    rw [RepV_bool, e1, e2]
    congr 1
    first | exact Bool.eq_iff_iff.2 (by simp) | exact congrArg _ (Bool.eq_iff_iff.2 (by simp))
theorem bin_ok {op : BinOp} (xt : TypeId) (ox oy : Operand) (ha : RepV E X a) (hb : RepV E Y b) (h : pBin op X Y = some v) :
    ∃ mv, ((do eqGuard op xt ox oy a b; Go.binOp op xt a b) : Sem Value).run P w = .ok mv w ∧ RepV E v mv := by
  cases X <;> cases Y <;> try (simp [pBin] at h; done)
  · simp only [RepV_int] at ha hb; subst ha hb; exact bin_int_ok xt ox oy h
  · simp only [RepV_str] at ha hb; subst ha hb; exact bin_str_ok xt ox oy h
theorem eqB_ok {op : BinOp} {neg : Bool} (hop : op = if neg then .neq else .eql) (xt : TypeId) (hu : P.underlying xt = some .bool) (ox oy : Operand) (ha : RepV E X a) (hb : RepV E Y b) (h : pEqB neg X Y = some v) :
    ∃ mv, ((do eqGuard op xt ox oy a b; Go.binOp op xt a b) : Sem Value).run P w = .ok mv w ∧ RepV E v mv := by
  cases X <;> cases Y <;> try (simp [pEqB] at h; done)
  simp only [RepV_bool] at ha hb; subst ha hb
  simp only [pEqB, Option.some.injEq] at h
  subst h
  cases neg <;> subst hop <;> simp [eqGuard, Go.binOp, Op.equal, Op.maxDepth, run_equalIn_bool' w 9999 xt _ _ hu]
  all_goals first | rfl | (rename_i p q; cases p <;> cases q <;> rfl)
end ops
end Go.Ev

namespace Go.Ev
open Go.RowKit
set_option linter.unusedVariables false
set_option linter.unusedSimpArgs false
theorem addr_add {a : Addr} (h : a.spot = none) (n : Nat) : a.add n = ⟨a.block, a.off + n, none⟩ := by
  unfold Addr.add
  split
  · rename_i e; subst e; cases a; simp at h ⊢; exact h
  · rfl
theorem Env.at_sub {E : Env} {a : Addr} {ds : List Value} (h : E.at a ds) (o n : Nat) : E.at (a.add o) ((ds.drop o).take n) := by
  rw [addr_add h.1]
  refine ⟨rfl, fun i v hv => ?_⟩
  have hi : i < ((ds.drop o).take n).length := by rcases Nat.lt_or_ge i ((ds.drop o).take n).length with h | h; exact h; simp [List.getElem?_eq_none h] at hv
  rw [List.getElem?_take, if_pos (by simp at hi; omega), List.getElem?_drop] at hv
  have := h.2 (o + i) v hv
  simpa [Nat.add_assoc] using this
section ops
variable {P : Program} {E : Env} {X Y Z v : LV} {a b c : Value} {w : World}
theorem info_of_cells {t : TypeId} (h : 0 < P.cellsOf t) : ∃ i, P.info? t = some i := by
  unfold Program.cellsOf at h
  cases e : P.info? t with
  | none => rw [e] at h; simp at h
  | some i => exact ⟨i, rfl⟩
theorem sizeOf_ok {t : TypeId} (h : 0 < P.cellsOf t) : (sizeOf t).run P w = .ok (P.cellsOf t) w := by
  obtain ⟨i, hi⟩ := info_of_cells h
  exact run_sizeOf w hi
theorem isAgg_ok {t : TypeId} {ag : Bool} (h : aggT P t = some ag) : (isAgg t).run P w = .ok ag w := by
  unfold aggT at h
  unfold isAgg
  cases e : P.underlying t with
  | none => rw [e] at h; simp at h
  | some d =>
    rw [e] at h
    simp only [Sem.run_bind, run_underlying e, Result.andThen_ok]
    cases d <;> simp at h <;> subst h <;> simp
theorem cells_one {cs : List Value} {o : Nat} {x : LV} (hx : Rep E x ((cs.drop o).take (flatLen x))) (hf : flatLen x = 1) (ho : o + flatLen x ≤ cs.length) : ∃ v, cs[o]? = some v ∧ Rep E x [v] := by
  have h1 : o < cs.length := by omega
  refine ⟨cs[o], List.getElem?_eq_getElem h1, ?_⟩
  rw [hf, List.drop_eq_getElem_cons h1] at hx
  simpa only [List.take_succ_cons, List.take_zero] using hx
theorem flat_scalar {x : LV} (h : x.isAgg = false) : flatLen x = 1 := by
  cases x <;> simp [LV.isAgg] at h <;> simp [flatLen]
theorem part_ok {t : TypeId} {ag : Bool} {cs : Array Value} {o : Nat} {x : LV} (hag : aggT P t = some ag) (hsz : 0 < P.cellsOf t) (hx : Rep E x ((cs.toList.drop o).take (flatLen x))) (ho : o + flatLen x ≤ cs.toList.length)
    (hf : flatLen x = P.cellsOf t) (ha : x.isAgg = ag) : ∃ mv, (part t cs o).run P w = .ok mv w ∧ RepS E x mv := by
  unfold part
  simp only [Sem.run_bind, isAgg_ok hag, Result.andThen_ok]
  cases ag with
  | true =>
    refine ⟨.agg (cs.extract o (o + P.cellsOf t)), by simp [sizeOf_ok hsz], .inl ⟨ha, _, rfl, ?_⟩⟩
    rw [hf] at hx
    have : (cs.extract o (o + P.cellsOf t)).toList = (cs.toList.drop o).take (P.cellsOf t) := by simp [List.extract_eq_take_drop]
    rw [this]; exact hx
  | false =>
    obtain ⟨v, h1, h2⟩ := cells_one hx (flat_scalar ha) ho
    refine ⟨v, ?_, .inr ⟨ha, h2⟩⟩
    have : cs[o]? = some v := by simpa using h1
    simp [this]
theorem pick_ok (ha : RepV E X a) (hb : RepV E Y b) (hc : RepV E Z c) (h : pPick X Y Z = some v) :
    ∃ mv, ((do pure (Next.value (if ← asBool a then b else c))) : Sem Next).run P w = .ok (.value mv) w ∧ RepV E v mv := by
  cases X <;> simp [pPick] at h
  subst h
  simp only [RepV_bool] at ha
  subst ha
  rename_i x
  cases x
  · exact ⟨c, by simp [asBool], hc⟩
  · exact ⟨b, by simp [asBool], hb⟩
theorem un_ok {op : UnOp} (ha : RepV E X a) (h : pUn op X = some v) : ∃ mv, (Op.unary op a).run P w = .ok mv w ∧ RepV E v mv := by
  cases X <;> simp [pUn] at h
  · obtain ⟨rfl, rfl⟩ := h
    simp only [RepV_bool] at ha; subst ha
    simp [Op.unary]
  · simp only [RepV_int] at ha; subst ha
    cases op <;> simp at h <;> subst h
    · simp [Op.unary, Op.intArith]
    · simp [Op.unary, Op.intBits, bitsOf]
theorem conv_ok {k k' : IntKind} {src dst : TypeId} (hs : P.underlying src = some (.int k')) (hd : P.underlying dst = some (.int k)) (ha : RepV E X a) (h : pConv k X = some v) :
    ∃ mv, (convert src dst a).run P w = .ok mv w ∧ RepV E v mv := by
  cases X <;> simp [pConv] at h
  subst h
  simp only [RepV_int] at ha; subst ha
  simp [convert, run_underlying hs, run_underlying hd, Conv.intToInt]
theorem mkIface_ok {t : TypeId} (ht : ∃ d, P.underlying t = some d ∧ ∀ m, d ≠ .interface m) (ha : RepV E X a) (h : pIface t X = some v) : ∃ mv, (Instr.makeInterface t a).run P w = .ok mv w ∧ RepV E v mv := by
  obtain ⟨d, hd, hn⟩ := ht
  unfold pIface at h
  split at h
  · simp at h
  · rename_i hag
    have hag : X.isAgg = false := by simpa using hag
    cases hp : psl X with
    | none => rw [hp] at h; simp at h
    | some x =>
      rw [hp] at h
      simp only [Option.map_some, Option.some.injEq] at h
      subst h
      have hS : RepS E X a := by
        cases X <;> first | exact ha | (simp [psl] at hp)
      obtain ⟨h1, h2, h3⟩ := psl_repS hS hp
      refine ⟨.iface t a, ?_, ?_⟩
      · unfold Instr.makeInterface
        simp only [Sem.run_bind, run_underlying hd, Result.andThen_ok]
        cases d <;> first | rfl | exact absurd rfl (hn _)
      · rw [RepV_ifc]
        exact ⟨a, rfl, by rw [h2, hag], by rw [RepS_scalar (by rw [h2, hag])] at h1; exact h1⟩
theorem assert_ok {xt t : TypeId} {ok : Bool} {z : LV} {zv : Value} (ht : ∃ d, P.underlying t = some d ∧ ∀ m, d ≠ .interface m) (hz : ok = true → ((zeroValue t).run P w = .ok zv w ∧ RepS E z zv)) (ha : RepV E X a) (h : pAssert t ok z X = some v) :
    ∃ mv, (Instr.typeAssert a xt t ok).run P w = .ok mv w ∧ RepV E v mv := by
  obtain ⟨d, hd, hn⟩ := ht
  have fails : ok = true → ∃ mv, ((do pure (.tuple #[← zeroValue t, .bool false])) : Sem Value).run P w = .ok mv w ∧ RepV E (.tup [z, .bool false]) mv := by
    intro hk
    obtain ⟨h1, h2⟩ := hz hk
    refine ⟨.tuple #[zv, .bool false], by simp [h1], _, rfl, ?_⟩
    exact ⟨zv, [.bool false], rfl, h2, .bool false, [], rfl, by simp [RepS, LV.isAgg, Rep], rfl⟩
  cases X <;> simp only [pAssert] at h <;> try (simp at h; done)
  · split at h
    · rename_i hk
      simp only [Option.some.injEq] at h
      subst h
      simp only [RepV_nili] at ha; subst ha
      obtain ⟨mv, h1, h2⟩ := fails hk
      refine ⟨mv, ?_, h2⟩
      unfold Instr.typeAssert
      simp only [Sem.run_bind, run_underlying hd, Result.andThen_ok]
      subst hk
      simp only [Sem.run_bind] at h1
      cases d <;> first | exact absurd rfl (hn _) | simpa using h1
    · simp at h
  · rename_i t' x
    rw [RepV_ifc] at ha
    obtain ⟨xv, rfl, hx1, hx2⟩ := ha
    split at h
    · rename_i he
      subst he
      simp only [Option.some.injEq] at h
      subst h
      have hS : RepS E x xv := (RepS_scalar hx1).2 (Rep_mono _ _ _ _ E.strip_le hx2)
      refine ⟨if ok then .tuple #[xv, .bool true] else xv, ?_, ?_⟩
      · unfold Instr.typeAssert
        simp only [Sem.run_bind, run_underlying hd, Result.andThen_ok]
        cases d <;> first | exact absurd rfl (hn _) | simp
      · cases ok
        · exact RepV_of_RepS hS
        · exact ⟨_, rfl, xv, [.bool true], rfl, hS, .bool true, [], rfl, by simp [RepS, LV.isAgg, Rep], rfl⟩
    · rename_i he
      split at h
      · rename_i hk
        simp only [Option.some.injEq] at h
        subst h
        obtain ⟨mv, h1, h2⟩ := fails hk
        refine ⟨mv, ?_, h2⟩
        unfold Instr.typeAssert
        simp only [Sem.run_bind, run_underlying hd, Result.andThen_ok]
        subst hk
        simp only [Sem.run_bind] at h1
        cases d <;> first | exact absurd rfl (hn _) | simpa [he] using h1
      · simp at h
theorem fieldAddr_ok {s : TypeId} {fs : Array Field} {f : Nat} {fd : Field} (hs : P.underlying s = some (.struct fs)) (hf : fs[f]? = some fd) (hz : 0 < P.cellsOf fd.type) (ha : RepV E X a) (h : pFieldAddr f fd.offset X = some v) :
    ∃ mv, (Instr.fieldAt s a f).run P w = .ok mv w ∧ RepV E v mv := by
  have go : ∀ ad : Addr, a = .pointer (some ad) → (Instr.fieldAt s a f).run P w = .ok (.pointer (some (ad.add fd.offset))) w := by
    intro ad he
    subst he
    unfold Instr.fieldAt
    simp only [Sem.run_bind, run_underlying hs, Result.andThen_ok, hf, Instr.sureAddr, Sem.run_pure, fieldPlace, sizeOf_ok hz]
    rw [if_neg (by omega)]
    simp
  cases X <;> simp only [pFieldAddr] at h <;> try (simp at h; done)
  · rename_i x
    cases x <;> simp only at h <;> try (simp at h; done)
    rename_i l
    rw [RepV_box] at ha
    obtain ⟨ad, ds, rfl, hat, hr⟩ := ha
    cases hl : l[f]? with
    | none => rw [hl] at h; simp at h
    | some y =>
      rw [hl] at h
      simp only at h
      split at h
      · rename_i ho
        simp only [Option.some.injEq] at h
        subst h
        simp only [Rep] at hr
        obtain ⟨g1, g2⟩ := RepC_get hr hl
        refine ⟨_, go ad rfl, ?_⟩
        rw [RepV_box]
        exact ⟨_, _, rfl, Env.at_sub hat _ _, by rw [← ho]; exact g1⟩
      · simp at h
  · simp only [Option.some.injEq] at h
    subst h
    rw [RepV_ptr] at ha
    obtain ⟨bb, h1, rfl⟩ := ha
    refine ⟨_, go _ rfl, ?_⟩
    rw [RepV_ptr]
    exact ⟨bb, h1, by rw [addr_add rfl]⟩
theorem nilCheck_ok (ha : RepV E X a) (h : pNilCheck X = some v) : v = X ∧ ((∃ ad, a = .pointer (some ad)) ∨ ∃ f vs, a = .func (.func f) #[] vs) := by
  cases X <;> simp [pNilCheck] at h <;> subst h
  · rw [RepV_box] at ha; obtain ⟨ad, ds, rfl, _⟩ := ha; exact ⟨rfl, .inl ⟨_, rfl⟩⟩
  · rw [RepV_ptr] at ha; obtain ⟨b, _, rfl⟩ := ha; exact ⟨rfl, .inl ⟨_, rfl⟩⟩
  · rw [RepV_clo] at ha; obtain ⟨b, rfl, _⟩ := ha; exact ⟨rfl, .inr ⟨_, _, rfl⟩⟩
theorem field_ok {s : TypeId} {fs : Array Field} {f : Nat} {fd : Field} {ag : Bool} (hs : P.underlying s = some (.struct fs)) (hf : fs[f]? = some fd) (hz : 0 < P.cellsOf fd.type) (hag : aggT P fd.type = some ag) (ha : RepV E X a) (h : pField f fd.offset (P.cellsOf fd.type) ag X = some v) :
    ∃ mv, (Instr.field s a f).run P w = .ok mv w ∧ RepV E v mv := by
  cases X <;> simp only [pField] at h <;> try (simp at h; done)
  rename_i l
  rw [RepV_agg] at ha
  obtain ⟨cs, rfl, hr⟩ := ha
  cases hl : l[f]? with
  | none => rw [hl] at h; simp at h
  | some y =>
    rw [hl] at h
    simp only at h
    split at h
    · rename_i ho
      obtain ⟨h1, h2, h3⟩ := ho
      simp only [Option.some.injEq] at h
      subst h
      obtain ⟨g1, g2⟩ := RepC_get hr hl
      rw [h1] at g1 g2
      obtain ⟨mv, k1, k2⟩ := part_ok (P := P) (w := w) hag hz g1 g2 h2 h3
      refine ⟨mv, ?_, RepV_of_RepS k2⟩
      simp [Instr.field, run_underlying hs, hf, asAgg, k1]
    · simp at h
theorem natOf_ok {j : Nat} (ha : RepV E X a) (h : natOf X = some j) : ∃ k, a = .int k (j : Int) := by
  cases X <;> simp [natOf] at h
  obtain ⟨h1, rfl⟩ := h
  simp only [RepV_int] at ha; subst ha
  rename_i k n
  exact ⟨k, by congr 1; omega⟩
theorem extract_ok {i : Nat} (ha : RepV E X a) (h : pExtract X i = some v) : ∃ mv, (Instr.extract a i).run P w = .ok mv w ∧ RepV E v mv := by
  cases X <;> simp only [pExtract] at h <;> try (simp at h; done)
  obtain ⟨vs, rfl, hl⟩ := ha
  obtain ⟨x, h1, h2⟩ := hl.get h
  refine ⟨x, ?_, RepV_of_RepS h2⟩
  have : vs[i]? = some x := by simpa using h1
  simp [Instr.extract, this]
theorem len_ok {t ty : TypeId} {str : Bool} (htS : str = true → P.underlying t = some .string) (htL : str = false → ∃ e, P.underlying t = some (.slice e))
    (ha : RepV E X a) (h : pLen str X = some v) : ∃ mv, (Go.Builtin.len_ #[t] ty #[a]).run P w = .ok mv w ∧ RepV E v mv := by
  cases str <;> cases X <;> simp only [pLen] at h <;> try (simp at h; done)
  rotate_left 4
  · rename_i s
    simp only [Option.some.injEq] at h; subst h
    simp only [RepV_str] at ha; subst ha
    exact ⟨_, run_len_string w t ty _ (htS rfl), by simp [goInt, ByteArray.size]⟩
  all_goals
    simp only [Option.some.injEq] at h; subst h
    obtain ⟨e, he⟩ := htL rfl
  · rw [RepV_nils] at ha; obtain ⟨x, rfl, _⟩ := ha
    simp [Go.Builtin.len_, run_underlying he, goInt]
  · rw [RepV_arr] at ha; obtain ⟨x, cap, m, _, _, _, _, rfl⟩ := ha
    simp [Go.Builtin.len_, run_underlying he, goInt]
  · rw [RepV_lst] at ha; obtain ⟨x, cap, rfl, _⟩ := ha
    simp [Go.Builtin.len_, run_underlying he, goInt]
  · rw [RepV_sarr] at ha; obtain ⟨x, cap, m, _, _, _, _, rfl⟩ := ha
    simp [Go.Builtin.len_, run_underlying he, goInt]
theorem idxStr_ok {t : TypeId} (ht : P.underlying t = some .string) (ha : RepV E X a) (hb : RepV E Y b) (h : pIdxStr X Y = some v) : ∃ mv, (Instr.index t a b).run P w = .ok mv w ∧ RepV E v mv := by
  cases X <;> simp only [pIdxStr] at h <;> try (simp at h; done)
  rename_i s
  simp only [RepV_str] at ha; subst ha
  cases hn : natOf Y with
  | none => rw [hn] at h; simp at h
  | some j =>
    rw [hn] at h
    simp only [Option.bind_some] at h
    obtain ⟨k, rfl⟩ := natOf_ok hb hn
    cases hj : s[j]? with
    | none => rw [hj] at h; simp at h
    | some y =>
      rw [hj] at h
      simp only [Option.map_some, Option.some.injEq] at h
      subst h
      refine ⟨.int .u8 y.toNat, ?_, by simp [byteLV]⟩
      have hlt : j < s.length := by rcases Nat.lt_or_ge j s.length with h | h; exact h; simp [List.getElem?_eq_none h] at hj
      have : (⟨⟨s⟩⟩ : ByteArray)[j]? = some y := by
        rw [ByteArray.getElem?_lt' _ _ (by simpa [ByteArray.size] using hlt)]
        rw [List.getElem?_eq_getElem hlt] at hj
        rw [← hj]
        rfl
      simp [Instr.index, asIntOf, run_underlying ht, this]
end ops
end Go.Ev

namespace Go.Ev
open Go.RowKit
set_option linter.unusedVariables false
set_option linter.unusedSimpArgs false
section ops
variable {P : Program} {E : Env} {X Y Z v : LV} {a b c : Value} {w : World}
theorem bytes_at {E : Env} {ad : Addr} {bs : List UInt8} {j : Nat} {y : UInt8} (h : E.at ad (bs.map fun x => .int .u8 (x.toNat : Int))) (hj : bs[j]? = some y) : E.at (ad.add j) [.int .u8 (y.toNat : Int)] := by
  have := Env.at_sub h j 1
  have hlt : j < bs.length := by rcases Nat.lt_or_ge j bs.length with h | h; exact h; simp [List.getElem?_eq_none h] at hj
  rw [← List.map_drop, ← List.map_take, List.drop_eq_getElem_cons hlt] at this
  rw [List.getElem?_eq_getElem hlt] at hj
  obtain rfl := Option.some.inj hj
  simpa only [List.take_succ_cons, List.take_zero, List.map_cons, List.map_nil] using this
theorem byteLV_rep (y : UInt8) : Rep E (byteLV y) [.int .u8 (y.toNat : Int)] := by simp [byteLV, Rep]
theorem idxAddr_arr_ok {t e : TypeId} {n : Nat} (ht : P.underlying t = some (.array n e)) (hz : 0 < P.cellsOf e) (hn : 1 < n) (ha : RepV E X a) (hb : RepV E Y b) (h : pIdxAddr (some n) (P.cellsOf e) X Y = some v) :
    ∃ mv, (Instr.indexAt t a b).run P w = .ok mv w ∧ RepV E v mv := by
  unfold pIdxAddr at h
  cases hj : natOf Y with
  | none => rw [hj] at h; simp at h
  | some j =>
    rw [hj] at h
    simp only [Option.bind_some] at h
    obtain ⟨k, rfl⟩ := natOf_ok hb hj
    have go : ∀ ad : Addr, a = .pointer (some ad) → j < n → (Instr.indexAt t a (.int k j)).run P w = .ok (.pointer (some (ad.add (j * P.cellsOf e)))) w := by
      intro ad he hjn
      subst he
      unfold Instr.indexAt
      simp only [Sem.run_bind, asIntOf, Sem.run_pure, Result.andThen_ok, run_underlying ht, Instr.sureAddr]
      rw [if_pos (by omega)]
      simp [sizeOf_ok hz]
    cases X <;> try (simp at h; done)
    · rename_i x
      cases x <;> try (simp at h; done)
      · rename_i l
        simp only at h
        rw [RepV_box] at ha
        obtain ⟨ad, ds, rfl, hat, hr⟩ := ha
        cases hl : l[j]? with
        | none => rw [hl] at h; simp at h
        | some y =>
          rw [hl] at h
          simp only at h
          split at h
          · rename_i ho
            obtain ⟨h1, h2⟩ := ho
            simp only [Option.some.injEq] at h
            subst h
            simp only [Rep] at hr
            obtain ⟨g1, g2⟩ := RepC_get hr hl
            refine ⟨_, go ad rfl h1, ?_⟩
            rw [RepV_box, ← h2]
            exact ⟨_, _, rfl, Env.at_sub hat _ _, g1⟩
          · simp at h
      · rename_i bs
        simp only at h
        rw [RepV_box] at ha
        obtain ⟨ad, ds, rfl, hat, hr⟩ := ha
        split at h
        · rename_i ho
          obtain ⟨h1, h2, h3⟩ := ho
          cases hl : bs[j]? with
          | none => rw [hl] at h; simp at h
          | some y =>
            rw [hl] at h
            simp only [Option.map_some, Option.some.injEq] at h
            subst h
            simp only [Rep] at hr
            subst hr
            refine ⟨_, go ad rfl h1, ?_⟩
            rw [RepV_box, h3, Nat.mul_one]
            exact ⟨_, _, rfl, bytes_at hat hl, byteLV_rep y⟩
        · simp at h
    · simp only at h
      split at h
      · rename_i h1
        simp only [Option.some.injEq] at h
        subst h
        rw [RepV_ptr] at ha
        obtain ⟨bb, g1, rfl⟩ := ha
        refine ⟨_, go _ rfl h1, ?_⟩
        rw [RepV_ptr]
        exact ⟨bb, g1, by rw [addr_add rfl]⟩
      · simp at h
theorem sumLen_const {l : List LV} {sz : Nat} (h : ∀ v ∈ l, flatLen v = sz) : sumLen l = l.length * sz := by
  induction l with
  | nil => simp [sumLen]
  | cons x l ih =>
    simp only [sumLen, List.length_cons]
    rw [h x (by simp), ih (fun v hv => h v (by simp [hv])), Nat.succ_mul, Nat.add_comm]
theorem idxAddr_slc_ok {t e : TypeId} (ht : P.underlying t = some (.slice e)) (hz : 0 < P.cellsOf e) (ha : RepV E X a) (hb : RepV E Y b) (h : pIdxAddr none (P.cellsOf e) X Y = some v) :
    ∃ mv, (Instr.indexAt t a b).run P w = .ok mv w ∧ RepV E v mv := by
  unfold pIdxAddr at h
  cases hj : natOf Y with
  | none => rw [hj] at h; simp at h
  | some j =>
    rw [hj] at h
    simp only [Option.bind_some] at h
    obtain ⟨k, rfl⟩ := natOf_ok hb hj
    have go : ∀ (ad : Addr) (len cap : Nat), a = .slice (some ad) len cap → j < len → (Instr.indexAt t a (.int k j)).run P w = .ok (.pointer (some (ad.add (j * P.cellsOf e)))) w := by
      intro ad len cap he hjn
      subst he
      unfold Instr.indexAt
      simp only [Sem.run_bind, asIntOf, Sem.run_pure, Result.andThen_ok, run_underlying ht]
      rw [if_pos (by omega)]
      simp [sizeOf_ok hz]
    cases X <;> try (simp at h; done)
    · rename_i t1 g p o lo len
      simp only at h
      split at h
      · rename_i h1
        obtain ⟨h1, h2⟩ := h1
        simp only [Option.some.injEq] at h
        subst h
        rw [RepV_arr] at ha
        obtain ⟨bb, cap, m, g1, g2, g3, g4, rfl⟩ := ha
        refine ⟨_, go _ _ _ rfl h1, ?_⟩
        rw [RepV_ptr]
        exact ⟨bb, g1, by rw [addr_add rfl, h2, Nat.mul_one]⟩
      · simp at h
    · rename_i tag l
      simp only at h
      cases hl : l[j]? with
      | none => rw [hl] at h; simp at h
      | some y =>
        rw [hl] at h
        simp only at h
        split at h
        · rename_i ho
          obtain ⟨h1, h2⟩ := ho
          simp only [Option.some.injEq] at h
          subst h
          have hjl : j < l.length := by rcases Nat.lt_or_ge j l.length with h | h; exact h; simp [List.getElem?_eq_none h] at hl
          rw [RepV_lst] at ha
          obtain ⟨ad, cap, rfl, g1, g2, g3⟩ := ha
          cases ad with
          | none => obtain ⟨rfl, _⟩ := g3; simp at hl
          | some ad =>
            obtain ⟨ds, sz, k1, k2, k3⟩ := g3
            have hy : y ∈ l := List.mem_of_getElem? hl
            have hsz : sz = P.cellsOf e := by rw [← k2 y hy, h1]
            obtain ⟨m1, m2⟩ := RepC_get k1 hl
            rw [sumLen_const (l := l.take j) (fun v hv => k2 v (List.mem_of_mem_take hv)), List.length_take, Nat.min_eq_left (by omega), hsz] at m1
            refine ⟨_, go _ _ _ rfl hjl, ?_⟩
            rw [RepV_box]
            exact ⟨_, _, rfl, Env.at_sub k3 _ _, m1⟩
        · simp at h
    · rename_i t1 g n sz
      simp only at h
      split at h
      · rename_i h1
        obtain ⟨h1, h2, _⟩ := h1
        simp only [Option.some.injEq] at h
        subst h
        rw [RepV_sarr] at ha
        obtain ⟨bb, cap, m, g1, g2, g3, g4, rfl⟩ := ha
        refine ⟨_, go _ _ _ rfl h1, ?_⟩
        rw [RepV_ptr]
        exact ⟨bb, g1, by rw [addr_add rfl, Nat.zero_add]⟩
      · simp at h
theorem idxArr_ok {t e : TypeId} {n : Nat} {ag : Bool} (ht : P.underlying t = some (.array n e)) (hz : 0 < P.cellsOf e) (hag : aggT P e = some ag) (ha : RepV E X a) (hb : RepV E Y b) (h : pIdxArr n (P.cellsOf e) ag X Y = some v) :
    ∃ mv, (Instr.index t a b).run P w = .ok mv w ∧ RepV E v mv := by
  unfold pIdxArr at h
  cases hj : natOf Y with
  | none => rw [hj] at h; simp at h
  | some j =>
    rw [hj] at h
    simp only [Option.bind_some] at h
    obtain ⟨k, rfl⟩ := natOf_ok hb hj
    have go : ∀ cs : Array Value, a = .agg cs → j < n → ∀ mv, (part e cs (j * P.cellsOf e)).run P w = .ok mv w → (Instr.index t a (.int k j)).run P w = .ok mv w := by
      intro cs he hjn mv hp
      subst he
      unfold Instr.index
      simp only [Sem.run_bind, asIntOf, Sem.run_pure, Result.andThen_ok, run_underlying ht]
      rw [if_pos (by omega)]
      simp [sizeOf_ok hz, hp]
    cases X <;> try (simp at h; done)
    · rename_i l
      simp only at h
      rw [RepV_agg] at ha
      obtain ⟨cs, rfl, hr⟩ := ha
      cases hl : l[j]? with
      | none => rw [hl] at h; simp at h
      | some y =>
        rw [hl] at h
        simp only at h
        split at h
        · rename_i ho
          obtain ⟨h1, h2, h3, h4⟩ := ho
          simp only [Option.some.injEq] at h
          subst h
          obtain ⟨g1, g2⟩ := RepC_get hr hl
          rw [h2] at g1 g2
          obtain ⟨mv, k1, k2⟩ := part_ok (P := P) (w := w) hag hz g1 g2 h3 h4
          exact ⟨mv, go cs rfl h1 mv k1, RepV_of_RepS k2⟩
        · simp at h
    · rename_i bs
      simp only at h
      rw [RepV_bytes] at ha
      obtain ⟨cs, rfl, hr⟩ := ha
      split at h
      · rename_i ho
        obtain ⟨h1, h2, h3⟩ := ho
        subst h3
        cases hl : bs[j]? with
        | none => rw [hl] at h; simp at h
        | some y =>
          rw [hl] at h
          simp only [Option.map_some, Option.some.injEq] at h
          subst h
          have hg : getPath (.bytes bs) [j] = some (byteLV y, j) := by simp [getPath, hl]
          have hrep : Rep E (.bytes bs) cs.toList := by simp only [Rep]; exact hr
          obtain ⟨g1, g2⟩ := getPath_rep _ _ _ _ _ _ hrep hg
          obtain ⟨mv, k1, k2⟩ := part_ok (P := P) (w := w) (t := e) (x := byteLV y) (o := j) hag hz g1 g2 (by simp [byteLV, flatLen, h2]) (by simp [byteLV, LV.isAgg])
          exact ⟨mv, go cs rfl h1 mv (by rw [h2, Nat.mul_one]; exact k1), RepV_of_RepS k2⟩
      · simp at h
theorem minmax2_ok {mx : Bool} (ha : RepV E X a) (hb : RepV E Y b) (h : pMinmax2 mx X Y = some v) : ∃ mv, (if mx then Go.Builtin.max2 a b else Go.Builtin.min2 a b : Sem Value).run P w = .ok mv w ∧ RepV E v mv := by
  cases X <;> cases Y <;> simp [pMinmax2] at h
  subst h
  simp only [RepV_int] at ha hb
  subst ha hb
  cases mx <;> simp [Go.Builtin.max2, Go.Builtin.min2] <;> (repeat' split) <;> first | rfl | omega
theorem bound_ok {len dflt j : Nat} {o : Option LV} {m : Option Value} (hm : match o, m with | some x, some y => RepV E x y | none, none => True | _, _ => False) (h : bound len dflt o = some j) :
    (m = none ∧ o = none ∧ j = dflt) ∨ (∃ k : IntKind, m = some (.int k (j : Int)) ∧ j ≤ len) := by
  cases o with
  | none => cases m with
    | none => simp [bound] at h; exact .inl ⟨rfl, rfl, h.symm⟩
    | some _ => exact hm.elim
  | some x => cases m with
    | none => exact hm.elim
    | some y =>
      simp only [bound] at h
      cases hn : natOf x with
      | none => rw [hn] at h; simp at h
      | some i =>
        rw [hn] at h
        simp only [Option.bind_some] at h
        split at h
        · rename_i hl
          simp only [Option.some.injEq] at h
          subst h
          obtain ⟨k, rfl⟩ := natOf_ok hm hn
          exact .inr ⟨k, rfl, hl⟩
        · simp at h
def optRep (E : Env) (o : Option LV) (m : Option Value) : Prop := match o, m with
  | some x, some y => RepV E x y
  | none, none => True
  | _, _ => False
theorem sliceBounds_ok {isSlice : Bool} {len cap l h : Nat} {lo hi : Option LV} {mlo mhi : Option Value} (hlc : len ≤ cap) (r1 : optRep E lo mlo) (r2 : optRep E hi mhi) (h1 : bound len len hi = some h) (h2 : bound h 0 lo = some l) :
    (Instr.sliceBounds isSlice len cap mlo mhi none).run P w = .ok (l, h, cap) w ∧ l ≤ h ∧ h ≤ len := by
  unfold Instr.sliceBounds
  have q1 : h ≤ len := by
    rcases bound_ok r2 h1 with ⟨_, _, rfl⟩ | ⟨k, _, hle⟩
    · exact Nat.le_refl _
    · exact hle
  have q2 : l ≤ h := by
    rcases bound_ok r1 h2 with ⟨_, _, rfl⟩ | ⟨k, _, hle⟩
    · exact Nat.zero_le _
    · exact hle
  refine ⟨?_, q2, q1⟩
  have e2 : ∀ code, (Instr.sliceBound (.int .i64 0) 0 code).run P w = .ok 0 w := fun code => by simp [Instr.sliceBound, asIntOf]
  have sb : ∀ (k : IntKind) (i y : Nat) code, i ≤ y → (Instr.sliceBound (.int k (i : Int)) y code).run P w = .ok i w := fun k i y code hh => by
    simp [Instr.sliceBound, asIntOf, hh]
  rcases bound_ok r2 h1 with ⟨rfl, _, rfl⟩ | ⟨k2, rfl, hle2⟩ <;> rcases bound_ok r1 h2 with ⟨rfl, _, rfl⟩ | ⟨k1, rfl, hle1⟩
  · simp
  · simp [sb _ _ _ _ hle1]
  · simp [sb _ _ _ _ (Nat.le_trans hle2 hlc)]
  · simp [sb _ _ _ _ (Nat.le_trans hle2 hlc), sb _ _ _ _ hle1]
theorem RepC_take_drop {E : Env} {l : List LV} {ds : List Value} {sz : Nat} (h : RepC E l ds) (hs : ∀ v ∈ l, flatLen v = sz) (lo n : Nat) (hn : lo + n ≤ l.length) :
    RepC E ((l.drop lo).take n) ((ds.drop (lo * sz)).take (n * sz)) := by
  have e : l = l.take lo ++ ((l.drop lo).take n ++ (l.drop lo).drop n) := by rw [List.take_append_drop, List.take_append_drop]
  rw [e] at h
  obtain ⟨c1, c2, rfl, h1, h2⟩ := (RepC_append E _ _ _).1 h
  obtain ⟨d1, d2, rfl, h3, h4⟩ := (RepC_append E _ _ _).1 h2
  have l1 := RepC_len _ _ _ h1
  have l2 := RepC_len _ _ _ h3
  rw [sumLen_const (fun v hv => hs v (List.mem_of_mem_take hv)), List.length_take, Nat.min_eq_left (by omega)] at l1
  rw [sumLen_const (fun v hv => hs v (List.mem_of_mem_drop (List.mem_of_mem_take hv))), List.length_take, List.length_drop, Nat.min_eq_left (by omega)] at l2
  rw [← l1, List.drop_left, ← l2, List.take_left]
  exact h3
theorem slc_ok {t : TypeId} {esz : Nat} {lo hi : Option LV} {mlo mhi : Option Value} (htS : esz = 0 → P.underlying t = some .string) (htL : esz ≠ 0 → ∃ e, P.underlying t = some (.slice e) ∧ 0 < P.cellsOf e ∧ esz = P.cellsOf e)
    (ha : RepV E X a) (r1 : optRep E lo mlo) (r2 : optRep E hi mhi) (h : pSlc esz X lo hi = some v) : ∃ mv, (Instr.sliceAt t a mlo mhi none).run P w = .ok mv w ∧ RepV E v mv := by
  have hst : ((∃ e, P.underlying t = some (.slice e)) ∨ P.underlying t = some .string) → (Instr.sliceAt t a mlo mhi none).run P w = (Instr.slice t a mlo mhi none).run P w := by
    intro ht
    unfold Instr.sliceAt
    rcases ht with ⟨e, ht⟩ | ht <;> simp [run_underlying ht]
  have bb : ∀ {n d : Nat} {r : Nat → Nat → Option LV}, ((bound n d hi).bind fun h => (bound h 0 lo).bind fun l => r l h) = some v → ∃ l h, bound n d hi = some h ∧ bound h 0 lo = some l ∧ r l h = some v := by
    intro n d r hh
    obtain ⟨h, h1, h2⟩ := Option.bind_eq_some_iff.1 hh
    obtain ⟨l, h3, h4⟩ := Option.bind_eq_some_iff.1 h2
    exact ⟨l, h, h1, h3, h4⟩
  cases X <;> simp only [pSlc] at h <;> try (simp at h; done)
  · rename_i s
    split at h
    case isFalse => simp at h
    rename_i h0
    rw [hst (.inr (htS h0))]
    obtain ⟨l, hh, h1, h2, h3⟩ := bb h
    simp only [Option.some.injEq] at h3
    subst h3
    simp only [RepV_str] at ha; subst ha
    obtain ⟨k1, k2, k3⟩ := sliceBounds_ok (P := P) (w := w) (isSlice := false) (Nat.le_refl _) r1 r2 h1 h2
    refine ⟨.string ⟨⟨(s.drop l).take (hh - l)⟩⟩, ?_, by simp⟩
    have hsz : (⟨⟨s⟩⟩ : ByteArray).size = s.length := rfl
    simp only [Instr.slice, Sem.run_bind, run_underlying (htS h0), Result.andThen_ok, Option.isSome_none, Bool.false_eq_true, if_false, hsz, k1, Sem.run_pure]
    congr 2
    apply ByteArray.ext
    apply Array.ext'
    simp [ByteArray.data_extract, List.extract_eq_take_drop]
  · split at h
    case isTrue => simp at h
    rename_i h0
    obtain ⟨e, he, hz, _⟩ := htL h0
    rw [hst (.inl ⟨e, he⟩)]
    obtain ⟨l, hh, h1, h2, h3⟩ := bb h
    simp only [Option.some.injEq] at h3
    subst h3
    rw [RepV_nils] at ha
    obtain ⟨x, rfl, hx⟩ := ha
    obtain ⟨k1, k2, k3⟩ := sliceBounds_ok (P := P) (w := w) (isSlice := true) (Nat.le_refl 0) r1 r2 h1 h2
    have hl0 : l = 0 := by omega
    have hh0 : hh = 0 := by omega
    subst hl0 hh0
    refine ⟨.slice x 0 0, ?_, RepV_nils.2 ⟨x, rfl, hx⟩⟩
    simp [Instr.slice, run_underlying he, k1, sizeOf_ok hz]
  · rename_i t1 g p o a1 n
    split at h
    case isFalse => simp at h
    rename_i e1
    obtain ⟨e, he, hz, hez⟩ := htL (by omega)
    rw [hst (.inl ⟨e, he⟩)]
    subst hez
    obtain ⟨l, hh, h1, h2, h3⟩ := bb h
    simp only [Option.some.injEq] at h3
    subst h3
    rw [RepV_arr] at ha
    obtain ⟨b1, cap, m, g1, g2, g3, g4, rfl⟩ := ha
    obtain ⟨k1, k2, k3⟩ := sliceBounds_ok (P := P) (w := w) (isSlice := true) g2 r1 r2 h1 h2
    have hrun : (Instr.slice t (.slice (some ⟨b1, o + a1, none⟩) n cap) mlo mhi none).run P w = .ok (.slice (if cap = l then some ⟨b1, o + a1, none⟩ else some ⟨b1, o + a1 + l, none⟩) (hh - l) (cap - l)) w := by
      simp [Instr.slice, run_underlying he, k1, sizeOf_ok hz, e1, addr_add]
    refine ⟨_, hrun, ?_⟩
    by_cases hlt : l < hh
    · rw [if_pos hlt, if_neg (by omega), RepV_arr]
      exact ⟨b1, cap - l, m, g1, by omega, g3, by omega, by rw [Nat.add_assoc]⟩
    · rw [if_neg hlt, RepV_lst]
      refine ⟨_, cap - l, by rw [show hh - l = 0 by omega]; rfl, by simp, trivial, ?_⟩
      split
      · rename_i heq; split at heq <;> simp at heq
      · rename_i x heq
        exact ⟨[], 0, by simp [RepC], by simp, by split at heq <;> (simp at heq; rw [← heq]), by simp⟩
  · rename_i tag l0
    split at h
    case isFalse => simp at h
    rename_i e1
    obtain ⟨e, he, hz, hez⟩ := htL e1.1
    rw [hst (.inl ⟨e, he⟩)]
    subst hez
    replace e1 := e1.2
    obtain ⟨l, hh, h1, h2, h3⟩ := bb h
    simp only [Option.some.injEq] at h3
    subst h3
    rw [RepV_lst] at ha
    obtain ⟨ad, cap, rfl, g1, g2, g3⟩ := ha
    have e1 : ∀ v ∈ l0, flatLen v = P.cellsOf e := by simpa using e1
    obtain ⟨k1, k2, k3⟩ := sliceBounds_ok (P := P) (w := w) (isSlice := true) g1 r1 r2 h1 h2
    have hrun : (Instr.slice t (.slice ad l0.length cap) mlo mhi none).run P w = .ok (.slice (if cap = l then ad else ad.map (·.add (l * P.cellsOf e))) (hh - l) (cap - l)) w := by
      simp [Instr.slice, run_underlying he, k1, sizeOf_ok hz]
    refine ⟨_, hrun, ?_⟩
    rw [RepV_lst]
    have hlen : ((l0.drop l).take (hh - l)).length = hh - l := by simp; omega
    refine ⟨_, cap - l, by rw [hlen], by rw [hlen]; omega, trivial, ?_⟩
    by_cases hc : cap = l
    · rw [if_pos hc]
      cases ad with
      | none => exact ⟨by rw [show hh - l = 0 by omega]; simp, by omega⟩
      | some ad =>
        obtain ⟨ds, sz, m1, m2, m3⟩ := g3
        exact ⟨[], 0, by rw [show hh - l = 0 by omega]; simp [RepC], by rw [show hh - l = 0 by omega]; simp, m3.1, by simp⟩
    · rw [if_neg hc]
      cases ad with
      | none => obtain ⟨rfl, rfl⟩ := g3; simp at k3; omega
      | some ad =>
        obtain ⟨ds, sz, m1, m2, m3⟩ := g3
        exact ⟨(ds.drop (l * P.cellsOf e)).take ((hh - l) * P.cellsOf e), P.cellsOf e, RepC_take_drop m1 e1 l (hh - l) (by omega), fun v hv => e1 v (List.mem_of_mem_drop (List.mem_of_mem_take hv)), Env.at_sub m3 _ _⟩
theorem RepC_bytes (bs : List UInt8) : RepC E (bs.map byteLV) (bs.map fun x => .int .u8 (x.toNat : Int)) := by
  induction bs with
  | nil => simp [RepC]
  | cons x bs ih => simp only [List.map_cons, RepC]; exact ⟨[_], _, rfl, byteLV_rep x, ih⟩
end ops
end Go.Ev

namespace Go.Ev
open Go.RowKit
set_option linter.unusedVariables false
set_option linter.unusedSimpArgs false
section ops
variable {P : Program} {E : Env} {X Y Z v : LV} {a b c : Value} {w : World}
def nilForm (a : Value) : Prop := (∃ x, a = .pointer x) ∨ a = .nilIface ∨ (∃ t x, a = .iface t x) ∨ a = .nilFunc ∨ (∃ f g h, a = .func f g h) ∨ (∃ x n c, a = .slice x n c) ∨ ∃ x, a = .map x
theorem binOp_eql_nil {xt : TypeId} (a b : Value) (h : nilForm a) : Go.binOp .eql xt a b = (do pure (.bool (← Op.equal xt a b))) ∧ Go.binOp .neq xt a b = (do pure (.bool !(← Op.equal xt a b))) := by
  rcases h with ⟨x, rfl⟩ | rfl | ⟨t, x, rfl⟩ | rfl | ⟨f, g, h, rfl⟩ | ⟨x, n, c, rfl⟩ | ⟨x, rfl⟩ <;> cases b <;> exact ⟨rfl, rfl⟩
set_option maxHeartbeats 1000000 in
theorem eqNil_ok {op : BinOp} {neg : Bool} {kind : Nat} {xt : TypeId} {d : TypeDesc} (hop : op = if neg then .neq else .eql) (hu : P.underlying xt = some d) (hk : nilKind d = some kind) (ha : RepV E X a) (h : pEqNil kind neg X = some v)
    (ox oy : Operand) (nv : Value) : 
    (isNilC kind oy = true → oy = .const nv → ∃ mv, ((do eqGuard op xt ox oy a nv; Go.binOp op xt a nv) : Sem Value).run P w = .ok mv w ∧ RepV E v mv) ∧
    (isNilC kind ox = true → ox = .const nv → ∃ mv, ((do eqGuard op xt ox oy nv a; Go.binOp op xt nv a) : Sem Value).run P w = .ok mv w ∧ RepV E v mv) := by
  have key : ∀ oz, isNilC kind oz = true → oz = .const nv → ∃ r : Bool, RepV E v (.bool (if neg then !r else r)) ∧ (∀ D, (Op.equalIn (D + 1) xt a nv).run P w = .ok r w ∧ (Op.equalIn (D + 1) xt nv a).run P w = .ok r w) ∧
      nilForm a ∧ nilForm nv := by
    intro oz hc hn
    subst hn
    by_cases h3 : kind = 3
    · subst h3
      have hsl : ∃ el, d = .slice el := by cases d <;> simp [nilKind] at hk; exact ⟨_, rfl⟩
      obtain ⟨el, rfl⟩ := hsl
      have hnv : nv = .slice none 0 0 := by
        cases nv with
        | slice b n c =>
          cases b with
          | none => cases n <;> cases c <;> simp [isNilC] at hc; rfl
          | some _ => simp [isNilC] at hc
        | pointer q => cases q <;> simp [isNilC] at hc
        | map q => cases q <;> simp [isNilC] at hc
        | _ => simp [isNilC] at hc
      subst hnv
      have eqs : ∀ (b : Option Addr) (n c : Nat) (D : Nat), (Op.equalIn (D + 1) xt (.slice b n c) (.slice none 0 0)).run P w = .ok b.isNone w ∧ (Op.equalIn (D + 1) xt (.slice none 0 0) (.slice b n c)).run P w = .ok b.isNone w := by
        intro b n c D
        cases b <;> simp [Op.equalIn, run_underlying hu]
      have anyOk : ∀ b n c, a = .slice b n c → v = .anyb → ∃ r : Bool, RepV E v (.bool (if neg then !r else r)) ∧ (∀ D, (Op.equalIn (D + 1) xt a (.slice none 0 0)).run P w = .ok r w ∧ (Op.equalIn (D + 1) xt (.slice none 0 0) a).run P w = .ok r w) ∧ nilForm a ∧ nilForm (.slice none 0 0) := by
        intro b n c e1 e2
        subst e1 e2
        exact ⟨b.isNone, ⟨_, rfl⟩, eqs b n c, by simp [nilForm], by simp [nilForm]⟩
      cases X <;> simp [pEqNil] at h
      · subst h
        rw [RepV_nils] at ha
        obtain ⟨b, rfl, _⟩ := ha
        exact anyOk b 0 0 rfl rfl
      · rename_i tg l
        rw [RepV_lst] at ha
        obtain ⟨b, cap, rfl, h2⟩ := ha
        cases l with
        | nil =>
          simp [pEqNil] at h
          subst h
          exact anyOk b _ _ rfl rfl
        | cons x l =>
          simp [pEqNil] at h
          subst h
          cases b with
          | none => obtain ⟨_, _, h3, _⟩ := h2; simp at h3
          | some b => exact ⟨false, by cases neg <;> simp, eqs (some b) _ _, by simp [nilForm], by simp [nilForm]⟩
    · have hns : ∀ q n c, nv ≠ .slice q n c := by
        intro q n c e
        subst e
        cases q <;> cases n <;> cases c <;> simp [isNilC, h3] at hc
      cases d <;> simp [nilKind] at hk <;> subst hk <;> cases nv <;> (try exact absurd rfl (hns _ _ _)) <;> simp [isNilC] at hc <;> try (rename_i q; cases q <;> simp [isNilC] at hc)
      all_goals try (exact absurd rfl h3)
      all_goals
        cases X <;> simp [pEqNil] at h <;> try subst h
        all_goals try (rename_i l; cases l <;> simp [pEqNil] at h; done)
        all_goals try
          first
          | (simp only [RepV_nilp] at ha; subst ha)
          | (simp only [RepV_nili] at ha; subst ha)
          | (simp only [RepV_nilf] at ha; subst ha)
          | (simp only [RepV_nilm] at ha; subst ha)
          | (rw [RepV_mref] at ha; obtain ⟨ad, _, rfl⟩ := ha)
          | (rw [RepV_box] at ha; obtain ⟨ad, ds, rfl, _⟩ := ha)
          | (rw [RepV_ptr] at ha; obtain ⟨ad, _, rfl⟩ := ha)
          | (rw [RepV_ifc] at ha; obtain ⟨ad, rfl, _⟩ := ha)
          | (rw [RepV_clo] at ha; obtain ⟨ad, rfl, _⟩ := ha)
      all_goals first
        | (refine ⟨true, ?h1, ?h2, by simp [nilForm], by simp [nilForm]⟩
           case h1 => cases neg <;> simp
           case h2 => intro D; simp [Op.equalIn, run_underlying hu])
        | (refine ⟨false, ?h1, ?h2, by simp [nilForm], by simp [nilForm]⟩
           case h1 => cases neg <;> simp
           case h2 => intro D; simp [Op.equalIn, run_underlying hu])
  constructor
  · intro hc hn
    obtain ⟨r, hv, h1, h2, h3⟩ := key oy hc hn
    subst hn
    have hg : (eqGuard op xt ox (.const nv) a nv).run P w = .ok () w := by
      rcases h2 with ⟨x, rfl⟩ | rfl | ⟨t, x, rfl⟩ | rfl | ⟨f, g, h, rfl⟩ | ⟨x, n, c, rfl⟩ | ⟨x, rfl⟩ <;> rcases h3 with ⟨y, rfl⟩ | rfl | ⟨t, y, rfl⟩ | rfl | ⟨f, g, h, rfl⟩ | ⟨y, n, c, rfl⟩ | ⟨y, rfl⟩ <;> cases op <;> first | rfl | simp [eqGuard]
    have hq : (Op.equal xt a nv).run P w = .ok r w := (h1 9999).1
    simp only [Sem.run_bind, hg, Result.andThen_ok]
    cases neg <;> subst hop
    · exact ⟨.bool r, by simp [(binOp_eql_nil (xt := xt) a nv h2).1, hq], by simpa using hv⟩
    · exact ⟨.bool (!r), by simp [(binOp_eql_nil (xt := xt) a nv h2).2, hq], by simpa using hv⟩
  · intro hc hn
    obtain ⟨r, hv, h1, h2, h3⟩ := key ox hc hn
    subst hn
    have hg : (eqGuard op xt (.const nv) oy nv a).run P w = .ok () w := by
      rcases h2 with ⟨x, rfl⟩ | rfl | ⟨t, x, rfl⟩ | rfl | ⟨f, g, h, rfl⟩ | ⟨x, n, c, rfl⟩ | ⟨x, rfl⟩ <;> rcases h3 with ⟨y, rfl⟩ | rfl | ⟨t, y, rfl⟩ | rfl | ⟨f, g, h, rfl⟩ | ⟨y, n, c, rfl⟩ | ⟨y, rfl⟩ <;> cases op <;> first | rfl | simp [eqGuard]
    have hq : (Op.equal xt nv a).run P w = .ok r w := (h1 9999).2
    simp only [Sem.run_bind, hg, Result.andThen_ok]
    cases neg <;> subst hop
    · exact ⟨.bool r, by simp [(binOp_eql_nil (xt := xt) nv a h3).1, hq], by simpa using hv⟩
    · exact ⟨.bool (!r), by simp [(binOp_eql_nil (xt := xt) nv a h3).2, hq], by simpa using hv⟩
theorem eqSh_len : ∀ (sh : Sh) (X Y : LV) (r : Bool), eqSh sh X Y = some r → flatLen X = shLen sh ∧ flatLen Y = shLen sh := by
  intro sh
  refine Sh.rec (motive_1 := fun sh => ∀ X Y r, eqSh sh X Y = some r → flatLen X = shLen sh ∧ flatLen Y = shLen sh) (motive_2 := fun l => ∀ X Y r, eqShL l X Y = some r → sumLen X = shLenL l ∧ sumLen Y = shLenL l) ?_ ?_ ?_ ?_ ?_ ?_ ?_ sh
  · intro X Y r h; cases X <;> cases Y <;> simp [eqSh] at h; simp [flatLen, shLen]
  · intro k X Y r h; cases X <;> cases Y <;> simp [eqSh] at h; simp [flatLen, shLen]
  · intro X Y r h; cases X <;> cases Y <;> simp [eqSh] at h; simp [flatLen, shLen]
  · intro n X Y r h; cases X <;> cases Y <;> simp [eqSh] at h; simp [flatLen, shLen, h.1.1, h.1.2]
  · intro l ih X Y r h; cases X <;> cases Y <;> simp [eqSh] at h; simpa [flatLen, shLen] using ih _ _ _ h
  · intro X Y r h; cases X <;> cases Y <;> simp [eqShL] at h; simp [sumLen, shLenL]
  · intro s l ih1 ih2 X Y r h
    cases X <;> cases Y <;> simp only [eqShL] at h <;> try (simp at h; done)
    obtain ⟨p, h1, h2⟩ := Option.bind_eq_some_iff.1 h
    obtain ⟨q, h3, h4⟩ := Option.bind_eq_some_iff.1 h2
    have k1 := ih1 _ _ _ h1
    have k2 := ih2 _ _ _ h3
    simp [sumLen, shLenL, k1, k2]
theorem eqSh_agg : ∀ (sh : Sh) (X Y : LV) (r : Bool), eqSh sh X Y = some r → X.isAgg = (match sh with | .bytes _ | .agg _ => true | _ => false) ∧ Y.isAgg = X.isAgg := by
  intro sh X Y r h
  cases sh <;> cases X <;> cases Y <;> simp [eqSh] at h <;> simp [LV.isAgg]
theorem eqFields_ok (d D : Nat) (hd : d ≤ D)
    (ih : ∀ t sh, shOf P d t = some sh → ∀ X Y a b r, RepS E X a → RepS E Y b → eqSh sh X Y = some r → (Op.equalIn D t a b).run P w = .ok r w) :
    ∀ (fs : List Field) (off : Nat) (shs : List Sh) (lx ly : List LV) (cx cy : Array Value) (r : Bool), shFields P (shOf P d) fs off = some shs → RepC E lx (cx.toList.drop off) → RepC E ly (cy.toList.drop off) → eqShL shs lx ly = some r →
      (Op.eqFields D cx cy fs).run P w = .ok r w
  | [], off, shs, lx, ly, cx, cy, r, h, hx, hy, he => by
    simp only [shFields, Option.some.injEq] at h
    subst h
    cases lx <;> cases ly <;> simp [eqShL] at he
    subst he
    simp [Op.eqFields]
  | f :: fs, off, shs, lx, ly, cx, cy, r, h, hx, hy, he => by
    simp only [shFields] at h
    split at h
    case isFalse => simp at h
    rename_i hf
    obtain ⟨hf1, hf2⟩ := hf
    cases hs : shOf P d f.type with
    | none => rw [hs] at h; simp at h
    | some s =>
      rw [hs] at h
      simp only at h
      split at h
      case isFalse => simp at h
      rename_i hc
      obtain ⟨hc1, hc2⟩ := hc
      cases hr : shFields P (shOf P d) fs (off + shLen s) with
      | none => rw [hr] at h; simp at h
      | some shs' =>
        rw [hr] at h
        simp only [Option.map_some, Option.some.injEq] at h
        subst h
        cases lx <;> cases ly <;> simp only [eqShL] at he <;> try (simp at he; done)
        rename_i x lx y ly
        obtain ⟨p, h1, h2⟩ := Option.bind_eq_some_iff.1 he
        obtain ⟨q, h3, h4⟩ := Option.bind_eq_some_iff.1 h2
        simp only [Option.some.injEq] at h4
        subst h4
        obtain ⟨k1, k2⟩ := eqSh_len _ _ _ _ h1
        obtain ⟨m1, m2⟩ := eqSh_agg _ _ _ _ h1
        simp only [RepC] at hx hy
        obtain ⟨x1, x2, ex, rx1, rx2⟩ := hx
        obtain ⟨y1, y2, ey, ry1, ry2⟩ := hy
        have lx1 := Rep_len _ _ _ rx1
        have ly1 := Rep_len _ _ _ ry1
        have hag : aggT P f.type = some x.isAgg := by
          rw [m1]
          cases d with
          | zero => simp [shOf] at hs
          | succ d =>
            simp only [shOf] at hs
            unfold aggT
            cases hu : P.underlying f.type with
            | none => rw [hu] at hs; simp at hs
            | some ud =>
              rw [hu] at hs
              cases ud <;> simp at hs <;> try (subst hs; rfl)
              · rw [← hs.2]
              · obtain ⟨_, z, _, rfl⟩ := hs; rfl
        have hlx : off + flatLen x ≤ cx.toList.length := by have := congrArg List.length ex; simp at this; simp; omega
        have hly : off + flatLen y ≤ cy.toList.length := by have := congrArg List.length ey; simp at this; simp; omega
        have px := part_ok (P := P) (w := w) (t := f.type) (cs := cx) (o := off) (x := x) hag (by omega) (by rw [ex, ← lx1, List.take_left]; exact rx1) hlx (by omega) rfl
        have py := part_ok (P := P) (w := w) (t := f.type) (cs := cy) (o := off) (x := y) (by rw [m2]; exact hag) (by omega) (by rw [ey, ← ly1, List.take_left]; exact ry1) hly (by omega) rfl
        obtain ⟨mx, px1, px2⟩ := px
        obtain ⟨my, py1, py2⟩ := py
        have hq := ih _ _ hs _ _ _ _ _ px2 py2 h1
        rw [← hf1] at px1 py1
        simp only [Op.eqFields, hf2, ne_eq, not_false_eq_true, if_true, Sem.run_bind, px1, py1, hq, Result.andThen_ok]
        cases p
        · simp
        · simp only [Bool.not_true, Bool.false_eq_true, if_false, Bool.true_and]
          refine eqFields_ok d D hd ih fs _ shs' lx ly cx cy q hr ?_ ?_ h3
          · rw [← List.drop_drop, ex, ← k1, ← lx1, List.drop_left]; exact rx2
          · rw [← List.drop_drop, ey, ← k2, ← ly1, List.drop_left]; exact ry2
theorem eqSh_ok : ∀ (d D : Nat) (t : TypeId) (sh : Sh) (X Y : LV) (a b : Value) (r : Bool), shOf P d t = some sh → d + 1 ≤ D → RepS E X a → RepS E Y b → eqSh sh X Y = some r → (Op.equalIn D t a b).run P w = .ok r w
  | 0, _, _, _, _, _, _, _, _, h, _, _, _, _ => by simp [shOf] at h
  | d + 1, D, t, sh, X, Y, a, b, r, h, hD, ha, hb, he => by
    obtain ⟨D, rfl⟩ : ∃ m, D = m + 2 := ⟨D - 2, by omega⟩
    simp only [shOf] at h
    cases hu : P.underlying t with
    | none => rw [hu] at h; simp at h
    | some ud =>
      rw [hu] at h
      cases ud <;> simp only at h <;> try (simp at h; done)
      · simp only [Option.some.injEq] at h; subst h
        cases X <;> cases Y <;> simp [eqSh] at he
        subst he
        have ha := RepV_bool.1 (RepV_of_RepS ha); have hb := RepV_bool.1 (RepV_of_RepS hb); subst ha hb
        exact run_equalIn_bool' w _ t _ _ hu
      · simp only [Option.some.injEq] at h; subst h
        cases X <;> cases Y <;> simp [eqSh] at he
        obtain ⟨⟨rfl, rfl⟩, rfl⟩ := he
        have ha := RepV_int.1 (RepV_of_RepS ha); have hb := RepV_int.1 (RepV_of_RepS hb); subst ha hb
        rw [run_equalIn_int w _ t _ _ _ _ hu]; exact congrArg (fun q => Result.ok q w) (Bool.eq_iff_iff.2 (by simp))
      · simp only [Option.some.injEq] at h; subst h
        cases X <;> cases Y <;> simp [eqSh] at he
        subst he
        have ha := RepV_str.1 (RepV_of_RepS ha); have hb := RepV_str.1 (RepV_of_RepS hb); subst ha hb
        rename_i x y
        rw [run_equalIn_string w _ t _ _ hu]
        have e1 : (⟨⟨x⟩⟩ : ByteArray).toList = x := ByteArray.toList_mk x
        have e2 : (⟨⟨y⟩⟩ : ByteArray).toList = y := ByteArray.toList_mk y
        rw [e1, e2]; congr 1; exact Bool.eq_iff_iff.2 (by simp)
      · rename_i n e
        split at h
        case isFalse => simp at h
        rename_i h8
        simp only [Bool.and_eq_true, decide_eq_true_eq] at h8
        simp only [Option.some.injEq] at h; subst h
        cases X <;> cases Y <;> simp [eqSh] at he
        obtain ⟨⟨l1, l2⟩, rfl⟩ := he
        obtain ⟨cx, rfl, hx⟩ := RepV_bytes.1 (RepV_of_RepS ha)
        obtain ⟨cy, rfl, hy⟩ := RepV_bytes.1 (RepV_of_RepS hb)
        rename_i x y
        have he8 : P.underlying e = some (.int .u8) := by
          have := h8.1; unfold isU8 at this; split at this
          · assumption
          · simp at this
        have := run_equalIn_bytes (P := P) w D t e n hu he8 (fun w => by rw [sizeOf_ok (by omega), h8.2]) x y l1 l2
        have ex : cx = (x.map Extern.Stop.cell).toArray := by apply Array.ext'; rw [hx]; simp [Extern.Stop.cell]
        have ey : cy = (y.map Extern.Stop.cell).toArray := by apply Array.ext'; rw [hy]; simp [Extern.Stop.cell]
        rw [ex, ey, this]
        congr 1; exact Bool.eq_iff_iff.2 (by simp)
      · rename_i fs
        split at h
        case isTrue => simp at h
        rename_i hst
        cases hf : shFields P (shOf P d) fs.toList 0 with
        | none => rw [hf] at h; simp at h
        | some shs =>
          rw [hf] at h
          simp only [Option.map_some, Option.some.injEq] at h; subst h
          cases X <;> cases Y <;> simp only [eqSh] at he <;> try (simp at he; done)
          obtain ⟨cx, rfl, hx⟩ := RepV_agg.1 (RepV_of_RepS ha)
          obtain ⟨cy, rfl, hy⟩ := RepV_agg.1 (RepV_of_RepS hb)
          have hfo : P.fieldsOf t = fs := by simp [Program.fieldsOf, hu]
          rw [run_equalIn_struct w (D + 1) t cx cy (by rw [hfo]; exact hu) (by simpa using hst), hfo]
          exact eqFields_ok d (D + 1) (by omega) (fun t sh hs X Y a b r h1 h2 h3 => eqSh_ok d (D + 1) t sh X Y a b r hs (by omega) h1 h2 h3) fs.toList 0 shs _ _ cx cy r hf hx hy he
theorem eqS_ok {op : BinOp} {neg : Bool} {xt : TypeId} {sh : Sh} (hop : op = if neg then .neq else .eql) (hg : P.eqGuardType P.depth xt = false) (hs : shOf P 20 xt = some sh) (hag : ∃ l, sh = .agg l ∨ ∃ n, sh = .bytes n) (ox oy : Operand) (ha : RepV E X a) (hb : RepV E Y b) (h : pEqS sh neg X Y = some v) :
    ∃ mv, ((do eqGuard op xt ox oy a b; Go.binOp op xt a b) : Sem Value).run P w = .ok mv w ∧ RepV E v mv := by
  unfold pEqS at h
  cases he : eqSh sh X Y with
  | none => rw [he] at h; simp at h
  | some r =>
    rw [he] at h
    simp only [Option.map_some, Option.some.injEq] at h
    subst h
    obtain ⟨m1, m2⟩ := eqSh_agg _ _ _ _ he
    have hX : X.isAgg = true := by rw [m1]; obtain ⟨l, rfl | ⟨n, rfl⟩⟩ := hag <;> rfl
    have hSa : RepS E X a := by cases X <;> first | exact ha | simp [LV.isAgg] at hX
    have hSb : RepS E Y b := by rw [hX] at m2; cases Y <;> first | exact hb | simp [LV.isAgg] at m2
    have hq := eqSh_ok (P := P) (w := w) 20 10000 xt sh X Y a b r hs (by omega) hSa hSb he
    rcases hSa with ⟨_, cx, rfl, _⟩ | ⟨hh, _⟩
    case inr => rw [hX] at hh; simp at hh
    rcases hSb with ⟨_, cy, rfl, _⟩ | ⟨hh, _⟩
    case inr => rw [m2, hX] at hh; simp at hh
    simp only [Sem.run_bind, run_eqGuard_agg w op xt ox oy cx cy hg, Result.andThen_ok]
    cases neg <;> subst hop
    · refine ⟨.bool r, ?_, by simp⟩
      simp only [Bool.false_eq_true, if_false]
      rw [run_eql_struct, hq]; rfl
    · refine ⟨.bool (!r), ?_, by simp⟩
      simp only [if_true]
      rw [run_neq_struct, hq]; rfl
end ops
end Go.Ev

namespace Go.Ev
open Go.RowKit
set_option linter.unusedVariables false
set_option linter.unusedSimpArgs false
theorem sameV_eq : ∀ {a b : Value}, sameV a b = true → a = b
  | .bool a, b, h => by cases b <;> simp [sameV] at h; subst h; rfl
  | .int k a, b, h => by cases b <;> simp [sameV] at h; obtain ⟨rfl, rfl⟩ := h; rfl
  | .string a, b, h => by
    cases b <;> simp [sameV] at h
    rename_i b
    obtain ⟨⟨x⟩⟩ := a
    obtain ⟨⟨y⟩⟩ := b
    simp at h; rw [h]
  | .pointer a, b, h => by
    cases a <;> cases b <;> simp [sameV] at h
    rename_i b; cases b <;> simp [sameV] at h; rfl
  | .slice a n m, b, h => by
    cases a <;> cases n <;> cases m <;> cases b <;> simp [sameV] at h
    rename_i x n m
    cases x <;> cases n <;> cases m <;> simp [sameV] at h
    rfl
  | .map a, b, h => by
    cases a <;> cases b <;> simp [sameV] at h
    rename_i b; cases b <;> simp [sameV] at h; rfl
  | .nilFunc, b, h => by cases b <;> simp [sameV] at h; rfl
  | .nilIface, b, h => by cases b <;> simp [sameV] at h; rfl
  | .float .., b, h => by simp [sameV] at h
  | .complex .., b, h => by simp [sameV] at h
  | .chan .., b, h => by simp [sameV] at h
  | .func .., b, h => by simp [sameV] at h
  | .iface .., b, h => by simp [sameV] at h
  | .agg .., b, h => by simp [sameV] at h
  | .tuple .., b, h => by simp [sameV] at h
theorem sameVs_eq : ∀ {a b : List Value}, sameVs a b = true → a = b
  | [], [], _ => rfl
  | [], _ :: _, h => by simp [sameVs] at h
  | _ :: _, [], h => by simp [sameVs] at h
  | x :: a, y :: b, h => by
    simp only [sameVs, Bool.and_eq_true] at h
    rw [sameV_eq h.1, sameVs_eq h.2]
mutual
theorem cellsLV_rep (E : Env) : ∀ (v : LV) (cs : List Value), cellsLV v = some cs → Rep E v cs
  | .bool _, cs, h | .int _ _, cs, h | .str _, cs, h | .nilp, cs, h | .nilm, cs, h | .nilf, cs, h | .nili, cs, h | .bytes _, cs, h => by
    simp only [cellsLV, Option.some.injEq] at h; subst h; simp [Rep]
  | .nils, cs, h => by simp only [cellsLV, Option.some.injEq] at h; subst h; simp [Rep]
  | .agg l, cs, h => by simp only [cellsLV] at h; simp only [Rep]; exact cellsLVL_rep E l cs h
  | .dead, cs, h | .undef, cs, h | .box _, cs, h | .ptr .., cs, h | .arr .., cs, h | .lst .., cs, h | .ifc .., cs, h | .clo .., cs, h | .tup _, cs, h | .fresh _, cs, h | .anyb, cs, h | .mref .., cs, h => by simp [cellsLV] at h
theorem cellsLVL_rep (E : Env) : ∀ (l : List LV) (cs : List Value), cellsLVL l = some cs → RepC E l cs
  | [], cs, h => by simp only [cellsLVL, Option.some.injEq] at h; subst h; simp [RepC]
  | v :: l, cs, h => by
    simp only [cellsLVL] at h
    obtain ⟨x, h1, h2⟩ := Option.bind_eq_some_iff.1 h
    obtain ⟨y, h3, h4⟩ := Option.bind_eq_some_iff.1 h2
    simp only [Option.some.injEq] at h4
    subst h4
    simp only [RepC]
    exact ⟨x, y, rfl, cellsLV_rep E v x h1, cellsLVL_rep E l y h3⟩
end
section ops
variable {P : Program} {E : Env} {X Y Z v : LV} {a b c : Value} {w : World}
theorem zeroLV_ok {t : TypeId} {z : LV} (h : zeroLV P t = some z) : ∃ i zv, P.info? t = some i ∧ i.zero = some zv ∧ (∀ E, Rep E z zv.cells.toList) ∧ zv.cells.size = P.cellsOf t := by
  unfold zeroLV at h
  cases hi : P.info? t with
  | none => rw [hi] at h; simp at h
  | some i =>
    rw [hi] at h
    simp only [Option.bind_some] at h
    cases hz : i.zero with
    | none => rw [hz] at h; simp at h
    | some zv =>
      rw [hz] at h
      simp only at h
      cases hd : dec P (P.types.size + 2) t zv.cells.toList with
      | none => rw [hd] at h; simp at h
      | some x =>
        rw [hd] at h
        simp only at h
        cases hc : cellsLV x with
        | none => rw [hc] at h; simp at h
        | some cs =>
          rw [hc] at h
          simp only at h
          split at h
          case isFalse => simp at h
          rename_i hs
          simp only [Bool.and_eq_true, decide_eq_true_eq] at hs
          simp only [Option.some.injEq] at h
          subst h
          have e := sameVs_eq hs.1
          refine ⟨i, zv, rfl, hz, fun E => by rw [← e]; exact cellsLV_rep E _ _ hc, ?_⟩
          rw [← hs.2, e]; simp
theorem zeroValue_ok {t : TypeId} {i : TypeInfo} {zv : Value} (hi : P.info? t = some i) (hz : i.zero = some zv) : (zeroValue t).run P w = .ok zv w := by
  simp [zeroValue, typeInfo, hi, hz]
theorem foldl_splice (vs : List Value) : ∀ (off k : Nat) (cs : Array Value), off + k + vs.length ≤ cs.size →
    ((vs.zipIdx k).foldl (fun cs (x : Value × Nat) => cs.setIfInBounds (off + x.2) x.1) cs).toList = cs.toList.take (off + k) ++ vs ++ cs.toList.drop (off + k + vs.length) := by
  induction vs with
  | nil => intro off k cs h; simp
  | cons v vs ih =>
    intro off k cs h
    simp only [List.length_cons] at h
    simp only [List.zipIdx_cons, List.foldl_cons]
    rw [ih off (k + 1) _ (by simp; omega)]
    simp only [Array.toList_setIfInBounds, List.length_cons]
    rw [← Nat.add_assoc off k 1, splice_step _ _ _ _ (by simp; omega)]
def placeOk (place : Nat → Option (Nat × Nat)) : LV → Prop
  | .agg l => ∀ i y, l[i]? = some y → place i = some (sumLen (l.take i), flatLen y)
  | .bytes b => ∀ i, i < b.length → place i = some (i, 1)
  | _ => True
theorem sumLen_set {l : List LV} {i : Nat} {x y : LV} (h : l[i]? = some y) (hf : flatLen y = flatLen x) : ∀ j, sumLen ((l.set i x).take j) = sumLen (l.take j) := by
  intro j
  induction l generalizing i j with
  | nil => simp
  | cons z l ih =>
    cases i with
    | zero =>
      simp at h; subst h
      cases j with
      | zero => simp
      | succ j => simp [sumLen, hf]
    | succ i =>
      cases j with
      | zero => simp
      | succ j => simp only [List.set_cons_succ, List.take_succ_cons, sumLen]; rw [ih (by simpa using h)]
theorem placeOk_put {place : Nat → Option (Nat × Nat)} {z x z' : LV} {i : Nat} (h : placeOk place z) (hp : putPart z i x = some z') : placeOk place z' := by
  cases z <;> try (simp [putPart] at hp; done)
  · rename_i l
    simp only [putPart] at hp
    cases hl : l[i]? with
    | none => rw [hl] at hp; simp at hp
    | some y =>
      rw [hl] at hp
      simp only at hp
      split at hp
      case isFalse => simp at hp
      rename_i hf
      have hf := hf.1
      simp only [Option.some.injEq] at hp
      subst hp
      intro j u hu
      rw [sumLen_set hl hf]
      by_cases e : i = j
      · subst e
        rw [List.getElem?_set] at hu
        simp at hu
        have := h i y hl
        rw [this, hf, ← hu.2]
      · rw [List.getElem?_set_ne e] at hu
        exact h j u hu
  · rename_i bs
    cases x <;> try (simp [putPart] at hp; done)
    rename_i k n
    cases k <;> simp [putPart] at hp
    obtain ⟨_, rfl⟩ := hp
    intro j hj
    exact h j (by simpa using hj)
theorem fill_one {E : Env} {place : Nat → Option (Nat × Nat)} {z x z' : LV} {i : Nat} {cs : Array Value} {xv : Value} (hz : Rep E z cs.toList) (hx : RepS E x xv) (hpl : placeOk place z) (hp : putPart z i x = some z') :
    ∃ off, place i = some (off, xv.cells.size) ∧ off + xv.cells.size ≤ cs.size ∧ Rep E z' (cs.toList.take off ++ xv.cells.toList ++ cs.toList.drop (off + xv.cells.toList.length)) := by
  have hc := hx.cells
  have hl := Rep_len _ _ _ hc
  cases z <;> try (simp [putPart] at hp; done)
  · rename_i l
    simp only [putPart] at hp
    cases hli : l[i]? with
    | none => rw [hli] at hp; simp at hp
    | some y =>
      rw [hli] at hp
      simp only at hp
      split at hp
      case isFalse => simp at hp
      rename_i hf
      have hf := hf.1
      simp only [Option.some.injEq] at hp
      subst hp
      simp only [Rep] at hz ⊢
      obtain ⟨g1, g2⟩ := RepC_get hz hli
      have hs : xv.cells.size = flatLen y := by rw [hf, ← hl]; simp
      exact ⟨_, by rw [hpl i y hli, hs], by rw [hs]; simpa using g2, RepC_set hz hli hc hf⟩
  · rename_i bs
    cases x <;> try (simp [putPart] at hp; done)
    rename_i k n
    cases k <;> try (simp [putPart] at hp; done)
    have hxv := RepV_int.1 (RepV_of_RepS hx)
    subst hxv
    have hg : i < bs.length := by simp [putPart] at hp; exact hp.1.1
    have hset : setPath (.bytes bs) [i] (.int .u8 n) = some z' := by simpa [putPart, setPath] using hp
    have hget : getPath (.bytes bs) [i] = some (byteLV bs[i], i) := by simp [getPath, List.getElem?_eq_getElem hg]
    have hlen := Rep_len _ _ _ hz
    simp only [flatLen] at hlen
    obtain ⟨m1, _, _⟩ := setPath_rep [i] _ E _ _ _ _ _ _ hz hget (by simp [byteLV, flatLen]) hc hset
    exact ⟨i, by rw [hpl i hg]; rfl, by simp [Value.cells]; simp at hlen; omega, m1⟩
def PartsRep (E : Env) : List (Nat × LV) → List (Nat × Value) → Prop
  | [], [] => True
  | p :: ps, q :: qs => p.1 = q.1 ∧ RepV E p.2 q.2 ∧ PartsRep E ps qs
  | _, _ => False
theorem RepS_of_stor {x : LV} {v : Value} (h : stor x = true) (hv : RepV E x v) : RepS E x v := by
  cases x <;> first | exact hv | simp [stor] at h
theorem putPart_stor {z x z' : LV} {i : Nat} (h : putPart z i x = some z') : stor x = true := by
  cases z <;> try (simp [putPart] at h; done)
  · simp only [putPart] at h
    split at h
    · split at h
      · rename_i hc; exact hc.2
      · simp at h
    · simp at h
  · cases x <;> first | rfl | (simp [putPart] at h)
theorem fill_ok {E : Env} {place : Nat → Option (Nat × Nat)} : ∀ (ps : List (Nat × LV)) (vs : List (Nat × Value)) (z v : LV) (cs : Array Value), Rep E z cs.toList → placeOk place z →
    PartsRep E ps vs → putParts z ps = some v → ∃ cs', Instr.fill place cs vs = some cs' ∧ Rep E v cs'.toList ∧ cs'.size = cs.size
  | [], vs, z, v, cs, hz, hpl, hps, h => by
    cases vs with
    | cons _ _ => exact hps.elim
    | nil =>
    simp only [putParts, Option.some.injEq] at h
    subst h
    exact ⟨cs, rfl, hz, rfl⟩
  | (i, x) :: ps, vs, z, v, cs, hz, hpl, hps, h => by
    cases vs with
    | nil => exact hps.elim
    | cons q vs =>
      obtain ⟨i', xv⟩ := q
      obtain ⟨hq, hx, hr⟩ := hps
      simp only at hq hx
      subst hq
      simp only [putParts] at h
      obtain ⟨z', h1, h2⟩ := Option.bind_eq_some_iff.1 h
      have hx := RepS_of_stor (putPart_stor h1) hx
      obtain ⟨off, k1, k2, k3⟩ := fill_one hz hx hpl h1
      have hsp := foldl_splice xv.cells.toList off 0 cs (by simpa using k2)
      simp only [Nat.add_zero] at hsp
      have hsp' : (xv.cells.zipIdx.foldl (fun cs (x : Value × Nat) => cs.setIfInBounds (off + x.2) x.1) cs).toList = cs.toList.take off ++ xv.cells.toList ++ cs.toList.drop (off + xv.cells.toList.length) := by
        rw [← hsp, ← Array.foldl_toList, Array.toList_zipIdx]
      rw [← hsp'] at k3
      obtain ⟨cs', m1, m2, m3⟩ := fill_ok ps vs z' v _ k3 (placeOk_put hpl h1) hr h2
      refine ⟨cs', ?_, m2, ?_⟩
      · simp only [Instr.fill, k1]
        rw [if_neg (by simp; omega)]
        exact m1
      · rw [m3]
        have := congrArg List.length hsp'
        simp only [Array.length_toList] at this
        rw [this]; simp; omega
end ops
end Go.Ev

namespace Go.Ev
open Go.RowKit
set_option linter.unusedVariables false
set_option linter.unusedSimpArgs false
section ops
variable {P : Program} {X : Ent} {E : Env} {sl sl' : Slots} {x y z v : LV} {a b c : Value} {w : World}
theorem putParts_flats : ∀ (ps : List (Nat × LV)) (z v : LV), putParts z ps = some v → (match z, v with
    | .agg l, .agg l' => l'.map flatLen = l.map flatLen
    | .bytes b, .bytes b' => b'.length = b.length
    | _, _ => ps = [] ∧ z = v)
  | [], z, v, h => by simp only [putParts, Option.some.injEq] at h; subst h; cases z <;> simp
  | (i, x) :: ps, z, v, h => by
    simp only [putParts] at h
    obtain ⟨z', h1, h2⟩ := Option.bind_eq_some_iff.1 h
    have ih := putParts_flats ps z' v h2
    cases z <;> try (simp [putPart] at h1; done)
    · rename_i l
      simp only [putPart] at h1
      cases hl : l[i]? with
      | none => rw [hl] at h1; simp at h1
      | some u =>
        rw [hl] at h1
        simp only at h1
        split at h1
        case isFalse => simp at h1
        rename_i hf
        simp only [Option.some.injEq] at h1
        subst h1
        have e : (l.set i x).map flatLen = l.map flatLen := by
          rw [List.map_set, ← hf.1]
          apply List.ext_getElem?
          intro j
          by_cases e : i = j
          · subst e
            have hi : i < l.length := by rcases Nat.lt_or_ge i l.length with h | h; exact h; simp [List.getElem?_eq_none h] at hl
            rw [List.getElem?_set]; simp [hi, hl]
            rw [List.getElem?_eq_getElem hi] at hl
            rw [Option.some.inj hl]
          · rw [List.getElem?_set_ne e]
        cases v <;> simp only at ih ⊢ <;> try (first | exact absurd ih.2 (by simp) | (obtain ⟨_, h⟩ := ih; cases h))
        rw [ih, e]
    · rename_i bs
      cases x <;> try (simp [putPart] at h1; done)
      rename_i k n
      cases k <;> simp [putPart] at h1
      obtain ⟨_, rfl⟩ := h1
      cases v <;> simp only at ih ⊢ <;> try (first | exact absurd ih.2 (by simp) | (obtain ⟨_, h⟩ := ih; cases h))
      simpa using ih
theorem putParts_agg {ps : List (Nat × LV)} {z v : LV} (hz : z.isAgg = true) (h : putParts z ps = some v) : v.isAgg = true := by
  have := putParts_flats ps z v h
  cases z <;> simp [LV.isAgg] at hz <;> cases v <;> simp [LV.isAgg] at this ⊢
theorem mapM_info {fs : List Field} (h : ∀ f ∈ fs, ∃ i, P.info? f.type = some i) : ∃ places, fs.mapM (fun f => (P.info? f.type).map fun i => (f.offset, i.size)) = some places ∧ places.length = fs.length ∧ ∀ (j : Nat) (f : Field), fs[j]? = some f → places[j]? = some (f.offset, P.cellsOf f.type) := by
  induction fs with
  | nil => exact ⟨[], by simp, rfl, by simp⟩
  | cons f fs ih =>
    obtain ⟨i, hi⟩ := h f (by simp)
    obtain ⟨r, h1, h2, h3⟩ := ih fun g hg => h g (by simp [hg])
    refine ⟨(f.offset, i.size) :: r, by simp [List.mapM_cons, hi, h1], by simp [h2], fun j g hj => ?_⟩
    cases j with
    | zero => simp at hj; subst hj; simp [Program.cellsOf, hi]
    | succ j => simpa using h3 j g (by simpa using hj)
theorem build_struct_ok {t : TypeId} {fs : Array Field} {l : List LV} {ps : List (Nat × LV)} {vs : Array (Nat × Value)} (hu : P.underlying t = some (.struct fs)) (hz : zeroLV P t = some (.agg l)) (hf : fieldsOk P fs l = true) (hps : PartsRep E ps vs.toList) (h : putParts (.agg l) ps = some v) :
    ∃ mv, (Instr.build t vs).run P w = .ok mv w ∧ RepV E v mv := by
  obtain ⟨i, zv, hi, hzv, hrep, hsz⟩ := zeroLV_ok hz
  unfold fieldsOk at hf
  simp only [Bool.and_eq_true, decide_eq_true_eq, List.all_eq_true, List.mem_range] at hf
  obtain ⟨hlen, hall⟩ := hf
  have hfld : ∀ (j : Nat) (f : Field), fs[j]? = some f → ∃ u, l[j]? = some u ∧ f.offset = sumLen (l.take j) ∧ P.cellsOf f.type = flatLen u ∧ 0 < flatLen u := by
    intro j f hj
    have hjs : j < fs.size := by rcases Nat.lt_or_ge j fs.size with h | h; exact h; simp [Array.getElem?_eq_none h] at hj
    have := hall j hjs
    rw [hj] at this
    have hjl : j < l.length := by omega
    rw [List.getElem?_eq_getElem hjl] at this
    simp only [Bool.and_eq_true, decide_eq_true_eq] at this
    exact ⟨l[j], List.getElem?_eq_getElem hjl, this.1.1, this.1.2, this.2⟩
  obtain ⟨places, p1, p2, p3⟩ := mapM_info (P := P) (fs := fs.toList) (fun f hf => by
    obtain ⟨j, hj, he⟩ := List.getElem_of_mem hf
    obtain ⟨u, _, _, h2, h3⟩ := hfld j f (by rw [← he]; simp at hj ⊢)
    exact info_of_cells (by omega))
  have hpl : placeOk (places.toArray[·]?) (.agg l) := by
    intro j u hj
    have hjl : j < l.length := by rcases Nat.lt_or_ge j l.length with h | h; exact h; simp [List.getElem?_eq_none h] at hj
    have hjs : j < fs.size := by omega
    obtain ⟨u', g1, g2, g3, _⟩ := hfld j fs[j] (Array.getElem?_eq_getElem hjs)
    rw [hj] at g1
    obtain rfl := Option.some.inj g1
    have := p3 j fs[j] (by simp)
    simp only [List.getElem?_toArray]
    rw [this, g2, g3]
  obtain ⟨cs', q1, q2, q3⟩ := fill_ok ps vs.toList _ v zv.cells (hrep E) hpl hps h
  refine ⟨.agg cs', ?_, RepV_of_RepS (.inl ⟨putParts_agg rfl h, cs', rfl, q2⟩)⟩
  refine run_build w t vs cs' ?_
  simp only [Program.built, hi, hu, hzv, p1]
  exact q1
theorem build_array_ok {t e : TypeId} {n : Nat} {zl : LV} {ps : List (Nat × LV)} {vs : Array (Nat × Value)} (hu : P.underlying t = some (.array n e)) (hz : zeroLV P t = some zl)
    (hcase : (∃ l, zl = .agg l ∧ ∀ u ∈ l, flatLen u = P.cellsOf e) ∨ (∃ b, zl = .bytes b ∧ P.cellsOf e = 1)) (hie : ∃ ie, P.info? e = some ie) (hps : PartsRep E ps vs.toList) (h : putParts zl ps = some v) :
    ∃ mv, (Instr.build t vs).run P w = .ok mv w ∧ RepV E v mv := by
  obtain ⟨i, zv, hi, hzv, hrep, hsz⟩ := zeroLV_ok hz
  obtain ⟨ie, hie⟩ := hie
  have hce : P.cellsOf e = ie.size := by simp [Program.cellsOf, hie]
  have hpl : placeOk (fun i => some (i * ie.size, ie.size)) zl := by
    rcases hcase with ⟨l, rfl, hl⟩ | ⟨b, rfl, hb⟩
    · intro j u hj
      have hjl : j < l.length := by rcases Nat.lt_or_ge j l.length with h | h; exact h; simp [List.getElem?_eq_none h] at hj
      rw [sumLen_const (sz := ie.size) (fun v hv => by rw [hl v (List.mem_of_mem_take hv), hce]), List.length_take, Nat.min_eq_left (by omega), hl u (List.mem_of_getElem? hj), hce]
    · intro j hj; rw [hce] at hb; simp [hb]
  obtain ⟨cs', q1, q2, q3⟩ := fill_ok ps vs.toList _ v zv.cells (hrep E) hpl hps h
  have hag : zl.isAgg = true := by rcases hcase with ⟨l, rfl, _⟩ | ⟨b, rfl, _⟩ <;> rfl
  refine ⟨.agg cs', ?_, RepV_of_RepS (.inl ⟨putParts_agg hag h, cs', rfl, q2⟩)⟩
  refine run_build w t vs cs' ?_
  simp only [Program.built, hi, hu, hzv, hie]
  exact q1
theorem psl_stor {x x' : LV} (h : psl x = some x') : stor x = true := by
  cases x <;> first | rfl | simp [psl] at h
theorem box_ok {e : TypeId} (hG : Good X E sl) (ha : RepV E x a) (h : pBox x = some v) : ∃ mv w', (Instr.box e a).run P E.w = .ok mv w' ∧ Eff X E v sl mv w' := by
  unfold pBox at h
  cases hp : psl x with
  | none => rw [hp] at h; simp at h
  | some y =>
    rw [hp] at h
    simp only [Option.map_some, Option.some.injEq] at h
    subst h
    obtain ⟨h1, h2, h3⟩ := psl_repS (RepS_of_stor (psl_stor hp) ha) hp
    refine ⟨.pointer (some ⟨E.w.heap.size, 0, none⟩), E.w.alloc (.cells a.cells e), by simp [Instr.box, newVar, newRow], E.imm a.cells e, imm_le hG _ _, rfl, imm_good hG _ _, ?_⟩
    rw [RepV_box]
    exact ⟨_, _, rfl, imm_at _ _, Rep_mono _ _ _ _ (imm_le hG _ _).strip h1.cells⟩
theorem boxM_ok {e : TypeId} {d : Nat} (hG : Good X E sl) (ha : RepV E x a) (h : cBoxM x d sl = some (v, sl')) : ∃ mv w', (Instr.box e a).run P E.w = .ok mv w' ∧ Eff X E v sl' mv w' := by
  unfold cBoxM at h
  obtain ⟨y, hp, h⟩ := Option.bind_eq_some_iff.1 h
  unfold mkObj at h
  cases hs : sl d with
  | obj g u => rw [hs] at h; simp at h
  | mp _ _ => rw [hs] at h; simp at h
  | tag g n sz => rw [hs] at h; simp at h
  | none g =>
    rw [hs] at h
    simp only [Option.map_some, Option.some.injEq, Prod.mk.injEq] at h
    obtain ⟨rfl, rfl⟩ := h
    obtain ⟨h1, h2, h3⟩ := psl_repS (RepS_of_stor (psl_stor hp) ha) hp
    have hg := obj_good (T := e) (fr := (0, 0)) hG (d := d) (g := g + 1) (by rw [hs]; simp [Slot.gen]) (Rep_mono _ _ _ _ E.strip_hs h1.cells) (List.prefix_refl a.cells.toList) (fun i _ h => by simp at h) (lim_none hG (by intro g n sz; rw [hs]; simp))
    refine ⟨.pointer (some ⟨E.w.heap.size, 0, none⟩), E.w.alloc (.cells a.cells e), by simp [Instr.box, newVar, newRow], _, hg.2, rfl, hg.1, ?_⟩
    rw [RepV_ptr]
    exact ⟨_, by simp [Env.obj], rfl⟩
theorem pslG_stor (h : pslG x = some v) : stor x = true := by
  cases x <;> simp only [pslG, reduceCtorEq] at h <;> rfl
theorem boxH_ok {e : TypeId} {k : Nat} (hG : Good X E sl) (ha : RepV E x a) (h : hBox k sl x = some (v, sl')) : ∃ mv w', (Instr.box e a).run P E.w = .ok mv w' ∧ Eff X E v sl' mv w' := by
  unfold hBox at h
  split at h
  case isFalse => simp at h
  obtain ⟨y, hp, h⟩ := Option.bind_eq_some_iff.1 h
  unfold mkObj at h
  cases hs : sl k with
  | obj g u => rw [hs] at h; simp at h
  | mp _ _ => rw [hs] at h; simp at h
  | tag g n sz => rw [hs] at h; simp at h
  | none g =>
    rw [hs] at h
    simp only [Option.map_some, Option.some.injEq, Prod.mk.injEq] at h
    obtain ⟨rfl, rfl⟩ := h
    obtain ⟨h1, h2, h3⟩ := pslG_repS (RepS_of_stor (pslG_stor hp) ha) hp
    have hg := obj_good (T := e) (fr := (0, 0)) hG (d := k) (g := g + 1) (by rw [hs]; simp [Slot.gen]) h1.cells (List.prefix_refl a.cells.toList) (fun i _ h => by simp at h) (lim_none hG (by intro g n sz; rw [hs]; simp))
    refine ⟨.pointer (some ⟨E.w.heap.size, 0, none⟩), E.w.alloc (.cells a.cells e), by simp [Instr.box, newVar, newRow], _, hg.2, rfl, hg.1, ?_⟩
    rw [RepV_ptr]
    exact ⟨_, by simp [Env.obj], rfl⟩
theorem alloc_ok {e : TypeId} {d : Nat} (hG : Good X E sl) (hz : zeroLV P e = some z) (h : cAlloc z d sl = some (v, sl')) : ∃ mv w', (Instr.alloc e true (.tuple #[])).run P E.w = .ok mv w' ∧ Eff X E v sl' mv w' := by
  obtain ⟨i, zv, hi, hzv, hrep, hsz⟩ := zeroLV_ok hz
  unfold cAlloc mkObj at h
  cases hs : sl d with
  | obj g u => rw [hs] at h; simp at h
  | mp _ _ => rw [hs] at h; simp at h
  | tag g n sz => rw [hs] at h; simp at h
  | none g =>
    rw [hs] at h
    simp only [Option.map_some, Option.some.injEq, Prod.mk.injEq] at h
    obtain ⟨rfl, rfl⟩ := h
    have hg := obj_good (T := e) (fr := (0, 0)) hG (d := d) (g := g + 1) (by rw [hs]; simp [Slot.gen]) (hrep E.hs) (List.prefix_refl zv.cells.toList) (fun i _ h => by simp at h) (lim_none hG (by intro g n sz; rw [hs]; simp))
    refine ⟨.pointer (some ⟨E.w.heap.size, 0, none⟩), E.w.alloc (.cells zv.cells e), by simp [Instr.alloc, zeroValue_ok hi hzv, newVar, newRow], _, hg.2, rfl, hg.1, ?_⟩
    rw [RepV_ptr]
    exact ⟨_, by simp [Env.obj], rfl⟩
theorem range_cells (z : Array Value) (n : Nat) (hz : 0 < z.size) : ((Array.range (n * z.size)).map (z[· % z.size]!)).toList = (List.replicate n z.toList).flatten := by
  induction n with
  | zero => simp
  | succ n ih =>
    have e : ((Array.range ((n + 1) * z.size)).map (z[· % z.size]!)).toList = (List.range ((n + 1) * z.size)).map (z[· % z.size]!) := by simp
    have e0 : ((Array.range (n * z.size)).map (z[· % z.size]!)).toList = (List.range (n * z.size)).map (z[· % z.size]!) := by simp
    rw [e, Nat.succ_mul, List.range_add, List.map_append, ← e0, ih, List.replicate_succ', List.flatten_append]
    congr 1
    simp only [List.map_map, List.flatten_cons, List.flatten_nil, List.append_nil]
    apply List.ext_getElem?
    intro j
    by_cases hj : j < z.size
    · simp [hj, Nat.mod_eq_of_lt hj]
    · simp [hj]
theorem RepC_replicate {E : Env} {z : LV} {cs : List Value} (h : Rep E z cs) (n : Nat) : RepC E (List.replicate n z) (List.replicate n cs).flatten := by
  induction n with
  | zero => simp [RepC]
  | succ n ih => simp only [List.replicate_succ, RepC, List.flatten_cons]; exact ⟨_, _, rfl, h, ih⟩
theorem bsl_cells {t e : TypeId} {n : Nat} {zs : LV} {ps : List (Nat × LV)} {vs : Array (Nat × Value)} (hu : P.underlying t = some (.slice e)) (hn : n * P.cellsOf e ≤ 16777216) (he : 0 < P.cellsOf e) (hn0 : 0 < n) (hz : zeroLV P e = some z)
    (hzs : zs = .agg (List.replicate n z) ∨ (zs = .bytes (List.replicate n 0) ∧ z = .int .u8 0 ∧ P.cellsOf e = 1)) (hps : PartsRep E ps vs.toList) (h : putParts zs ps = some v) :
    ∃ cs : Array Value, (Instr.buildSlice t n vs).run P w = .ok (.slice (some ⟨w.heap.size, 0, none⟩) n n) (w.alloc (.cells cs e)) ∧ Rep E v cs.toList ∧ cs.size = n * P.cellsOf e := by
  obtain ⟨i, zv, hi, hzv, hrep, hsz⟩ := zeroLV_ok hz
  have hce : P.cellsOf e = i.size := by simp [Program.cellsOf, hi]
  have hzpos : 0 < zv.cells.size := by omega
  have hpl : placeOk (fun j => some (j * i.size, i.size)) zs := by
    rcases hzs with rfl | ⟨rfl, _, h1⟩
    · intro j u hj
      have hjl : j < n := by rcases Nat.lt_or_ge j n with h | h; exact h; simp [List.getElem?_eq_none, h] at hj
      have hu : u = z := by simp [List.getElem?_replicate, hjl] at hj; exact hj.symm
      have hfz : flatLen z = i.size := by rw [← Rep_len _ _ _ (hrep E), ← hce, ← hsz]; simp
      rw [sumLen_const (sz := i.size) (fun v hv => by have := List.mem_of_mem_take hv; rw [List.eq_of_mem_replicate this, hfz]), List.length_take, List.length_replicate, Nat.min_eq_left (by omega), hu, hfz]
    · intro j hj; rw [hce] at h1; simp [h1]
  have hr0 : Rep E zs ((Array.range (n * i.size)).map (zv.cells[· % zv.cells.size]!)).toList := by
    have hsize : i.size = zv.cells.size := by omega
    rw [hsize, range_cells _ _ hzpos]
    rcases hzs with rfl | ⟨rfl, rfl, h1⟩
    · simp only [Rep]; exact RepC_replicate (hrep E) n
    · have := hrep E
      simp only [Rep] at this ⊢
      rw [this]; simp
  obtain ⟨cs', q1, q2, q3⟩ := fill_ok ps vs.toList _ v _ hr0 hpl hps h
  refine ⟨cs', run_buildSlice w t e n vs cs' i zv hu hi hzv (by rw [← hce]; omega) (by rw [← hce]; have := Nat.mul_pos hn0 he; omega) q1, q2, ?_⟩
  rw [q3, hce]; simp
theorem pslL_flats : ∀ (l l' : List LV), pslL l = some l' → l'.map flatLen = l.map flatLen
  | [], l', h => by simp only [pslL, Option.some.injEq] at h; subst h; rfl
  | x :: l, l', h => by
    simp only [pslL] at h
    obtain ⟨y, h1, h2⟩ := Option.bind_eq_some_iff.1 h
    obtain ⟨r, h3, h4⟩ := Option.bind_eq_some_iff.1 h2
    simp only [Option.some.injEq] at h4
    subst h4
    have : flatLen y = flatLen x := by
      cases x <;> simp only [psl] at h1 <;> try (first | (simp at h1; done) | (simp only [Option.some.injEq] at h1; subst h1; simp [flatLen]))
      · obtain ⟨z, hz, rfl⟩ := Option.map_eq_some_iff.1 h1; simp [flatLen]
      · obtain ⟨z, hz, rfl⟩ := Option.map_eq_some_iff.1 h1
        have := pslL_flats _ _ hz
        simp only [flatLen]
        have hs : ∀ l : List LV, sumLen l = (l.map flatLen).sum := by intro l; induction l with | nil => rfl | cons a l ih => simp [sumLen, ih]
        rw [hs, hs, this]
    simp [this, pslL_flats l r h3]
theorem pBsl_inv {n : Nat} {ps : List (Nat × LV)} (h : pBsl z n ps = some v) : ∃ l l', putParts (.agg (List.replicate n z)) ps = some (.agg l) ∧ pslL l = some l' ∧ v = .lst none l' ∧ l'.length = n ∧ ∀ u ∈ l', flatLen u = flatLen z := by
  unfold pBsl at h
  obtain ⟨u, h1, h2⟩ := Option.bind_eq_some_iff.1 h
  cases u <;> simp only at h2 <;> try (simp at h2; done)
  rename_i l
  obtain ⟨l', h3, rfl⟩ := Option.map_eq_some_iff.1 h2
  have f1 := putParts_flats _ _ _ h1
  simp only at f1
  have f2 := pslL_flats _ _ h3
  rw [f1] at f2
  have hlen := congrArg List.length f2
  simp at hlen
  refine ⟨l, l', h1, h3, rfl, hlen, fun u hu => ?_⟩
  have : flatLen u ∈ l'.map flatLen := List.mem_map.2 ⟨u, hu, rfl⟩
  rw [f2] at this
  simp at this
  exact this.2
theorem bs0_ok {t e : TypeId} {vs : Array (Nat × Value)} (hG : Good X E sl) (hu : P.underlying t = some (.slice e)) (he : 0 < P.cellsOf e) (hps : PartsRep E [] vs.toList) :
    ∃ mv w', (Instr.buildSlice t 0 vs).run P E.w = .ok mv w' ∧ Eff X E .nils sl mv w' := by
  have hvs : vs = #[] := by
    have h : vs.toList = [] := by
      cases hl : vs.toList with
      | nil => rfl
      | cons x l => rw [hl] at hps; exact hps.elim
    exact Array.toList_inj.1 (by simpa using h)
  subst hvs
  obtain ⟨i, hi⟩ := info_of_cells he
  have hrun : (Instr.buildSlice t 0 #[]).run P E.w = .ok (.slice (some ⟨E.w.heap.size, 0, none⟩) 0 0) (E.w.alloc (.cells #[] e)) := by
    simp [Instr.buildSlice, run_underlying hu, sizeOf, typeInfo, hi, Instr.fill, newRow]
    rw [show Array.range 0 = #[] from rfl, Array.map_empty]
  refine ⟨_, _, hrun, E.imm #[] e, imm_le hG _ _, rfl, imm_good hG _ _, ?_⟩
  rw [RepV_nils]
  exact ⟨some ⟨E.w.heap.size, 0, none⟩, rfl, by intro y hy; simp at hy; rw [← hy]⟩
theorem bsl_ok {t e : TypeId} {n : Nat} {ps : List (Nat × LV)} {vs : Array (Nat × Value)} (hG : Good X E sl) (hu : P.underlying t = some (.slice e)) (hn : n * P.cellsOf e ≤ 16777216) (he : 0 < P.cellsOf e) (hn0 : 0 < n) (hz : zeroLV P e = some z) (hps : PartsRep E ps vs.toList) (h : pBsl z n ps = some v) :
    ∃ mv w', (Instr.buildSlice t n vs).run P E.w = .ok mv w' ∧ Eff X E v sl mv w' := by
  obtain ⟨l, l', h1, h2, rfl, h3, h4⟩ := pBsl_inv h
  obtain ⟨cs, k1, k2, k3⟩ := bsl_cells (w := E.w) hu hn he hn0 hz (.inl rfl) hps h1
  simp only [Rep] at k2
  obtain ⟨g1, g2, g3⟩ := pslL_rep _ _ _ _ k2 h2
  refine ⟨_, _, k1, E.imm cs e, imm_le hG _ _, rfl, imm_good hG _ _, ?_⟩
  rw [RepV_lst]
  exact ⟨some ⟨E.w.heap.size, 0, none⟩, n, by rw [h3], by omega, trivial, cs.toList, _, RepC_mono _ _ _ _ (imm_le hG _ _).strip g1, h4, imm_at _ _⟩
theorem bslT_ok {t e : TypeId} {n d : Nat} {ps : List (Nat × LV)} {vs : Array (Nat × Value)} (hG : Good X E sl) (hlow : d < K0) (hu : P.underlying t = some (.slice e)) (hn : n * P.cellsOf e ≤ 16777216) (he : 0 < P.cellsOf e) (hn0 : 0 < n) (hz : zeroLV P e = some z) (hps : PartsRep E ps vs.toList) (h : cBslT z n ps d sl = some (v, sl')) :
    ∃ mv w', (Instr.buildSlice t n vs).run P E.w = .ok mv w' ∧ Eff X E v sl' mv w' := by
  unfold cBslT at h
  obtain ⟨u, h0, hh⟩ := Option.bind_eq_some_iff.1 h
  obtain ⟨l, l', h1, h2, rfl, h3, h4⟩ := pBsl_inv h0
  obtain ⟨cs, k1, k2, k3⟩ := bsl_cells (w := E.w) hu hn he hn0 hz (.inl rfl) hps h1
  simp only [Rep] at k2
  obtain ⟨g1, g2, g3⟩ := pslL_rep _ _ _ _ k2 h2
  have hfz : flatLen z = P.cellsOf e := by obtain ⟨i, zv, hi, hzv, hrep, hsz⟩ := zeroLV_ok hz; rw [← Rep_len _ _ _ (hrep E), ← hsz]; simp
  have key : ∀ g, (sl d).gen = g → (∀ g v, sl d ≠ .obj g v) → v = .lst (some (d, g + 1)) l' → sl' = upd sl d (.tag (g + 1) l'.length (flatLen z)) → ∃ mv w', (Instr.buildSlice t n vs).run P E.w = .ok mv w' ∧ Eff X E v sl' mv w' := by
    intro g hg hno hv hs
    subst hv hs
    have hT := tagNew_good (T := e) (cs := cs) hG (d := d) (g := g + 1) (n := n) (sz := flatLen z) (cap := n) (by rw [k3, hfz]; exact Nat.le_refl _) (.inl (by omega)) hno hlow
    rw [h3]
    refine ⟨_, _, k1, _, hT.1, rfl, hT.2, ?_⟩
    rw [RepV_lst]
    refine ⟨some ⟨E.w.heap.size, 0, none⟩, n, by rw [h3], by omega, ⟨by simp [Env.tagNew], fun m hm => ?_⟩, cs.toList, _, RepC_mono _ _ _ _ hT.1.strip g1, h4, tagNew_at (by rw [hfz, ← k3]; simp) (List.prefix_refl _)⟩
    simp only [Env.tagNew, if_true, Option.some.injEq] at hm
    subst hm
    exact ⟨by omega, fun _ => by simp [Env.tagNew]⟩
  cases hs : sl d with
  | obj g u => rw [hs] at hh; simp at hh
  | mp _ _ => rw [hs] at hh; simp at hh
  | none g =>
    rw [hs] at hh
    simp only [Option.some.injEq, Prod.mk.injEq] at hh
    exact key g (by rw [hs]; rfl) (by intro g v; rw [hs]; simp) hh.1.symm hh.2.symm
  | tag g m sz =>
    rw [hs] at hh
    simp only [Option.some.injEq, Prod.mk.injEq] at hh
    exact key g (by rw [hs]; rfl) (by intro g v; rw [hs]; simp) hh.1.symm hh.2.symm
theorem bytes_obj {e : TypeId} {d : Nat} {bs : List UInt8} {cs : Array Value} {fr : Nat × Nat} (hG : Good X E sl) (h : cBytes bs d sl = some (v, sl')) (hp : (bs.map fun x => Value.int .u8 (x.toNat : Int)) <+: cs.toList) (hf : ∀ i, i < cs.size → ¬ (fr.1 ≤ i ∧ i < fr.2)) :
    Eff X E v sl' (.slice (some ⟨E.w.heap.size, 0, none⟩) bs.length cs.size) (E.w.alloc (.cells cs e fr)) := by
  unfold cBytes mkObj at h
  cases hs : sl d with
  | obj g u => rw [hs] at h; simp at h
  | mp _ _ => rw [hs] at h; simp at h
  | tag g n sz => rw [hs] at h; simp at h
  | none g =>
    rw [hs] at h
    simp only [Option.map_some, Option.some.injEq, Prod.mk.injEq] at h
    obtain ⟨rfl, rfl⟩ := h
    have hg := obj_good (T := e) (fr := fr) hG (d := d) (g := g + 1) (v := .bytes bs) (by rw [hs]; simp [Slot.gen]) (by simp only [Rep]) hp hf (lim_none hG (by intro g n sz; rw [hs]; simp))
    refine ⟨_, hg.2, rfl, hg.1, ?_⟩
    rw [RepV_arr]
    have hl : bs.length ≤ cs.size := by have := hp.length_le; simpa using this
    exact ⟨E.w.heap.size, cs.size, cs.size, by simp [Env.obj], hl, by show blkSize (E.w.alloc _) _ = _; unfold blkSize; rw [heap_alloc_new], by omega, rfl⟩
end ops
end Go.Ev

namespace Go.Ev
open Go.RowKit
set_option linter.unusedVariables false
set_option linter.unusedSimpArgs false
section ops
variable {P : Program} {X : Ent} {E : Env} {sl sl' : Slots} {x y z v : LV} {a b c : Value} {w : World}
theorem nilT_ok {sz d : Nat} (hG : Good X E sl) (hlow : d < K0) (h : cNilT sz d sl = some (v, sl')) : Eff X E v sl' (.slice none 0 0) E.w := by
  unfold cNilT at h
  cases hs : sl d with
  | obj g u => rw [hs] at h; simp at h
  | mp _ _ => rw [hs] at h; simp at h
  | tag g n sz => rw [hs] at h; simp at h
  | none g =>
    rw [hs] at h
    simp only [Option.some.injEq, Prod.mk.injEq] at h
    obtain ⟨rfl, rfl⟩ := h
    let E' : Env := { E with lim := fun t u => if t = d then (if u = g + 1 then some 0 else none) else E.lim t u, τ := fun t u => if t = d ∧ u = g + 1 then some (none, 0) else E.τ t u }
    have le : E.le E' := by
      refine ⟨fun _ _ _ _ h => h, fun _ _ h => h, fun _ _ _ h => h, fun _ _ _ _ _ h => h, fun t u ht => ?_, fun t u n' hn ht => ?_⟩
      · show (if t = d ∧ u = g + 1 then some (none, 0) else E.τ t u).isSome = true
        split
        · rfl
        · exact ht
      · have hn : (if t = d then (if u = g + 1 then some 0 else none) else E.lim t u) = some n' := hn
        by_cases e : t = d
        · subst e
          rw [if_pos rfl] at hn
          split at hn
          · rename_i e2; subst e2; have := hG.gensτ _ _ ht; rw [hs] at this; simp [Slot.gen] at this; omega
          · simp at hn
        · rw [if_neg e] at hn
          exact ⟨n', hn, Nat.le_refl _, fun _ => by show (if t = d ∧ u = g + 1 then some (none, 0) else E.τ t u) = _; simp [e]⟩
    refine ⟨E', le, rfl, ?_, ?_⟩
    · refine hG.change d _ le hG.keep (fun _ _ h => .inl h) hG.clIn (fun _ _ _ _ => rfl) (fun _ _ _ => rfl) (fun t u ht => by simp [E', ht]) (fun t u ht => by simp [E', ht]) (fun u b hb => ?_) (fun u hu => ?_) (fun u n hn => ?_) ?_ (fun b hb => ?_) (fun _ q => absurd q (by omega))
      · have := hG.gens d u b hb; rw [hs] at this; simp [Slot.gen] at this ⊢; omega
      · have hu : (if d = d ∧ u = g + 1 then some (none, 0) else E.τ d u).isSome = true := hu
        split at hu
        · rename_i e; simp [Slot.gen, e.2]
        · have := hG.gensτ d u hu; rw [hs] at this; simp [Slot.gen] at this ⊢; omega
      · have hn : (if d = d then (if u = g + 1 then some 0 else none) else E.lim d u) = some n := hn
        rw [if_pos rfl] at hn
        split at hn
        · rename_i e; obtain rfl := Option.some.inj hn; exact ⟨sz, by rw [e]⟩
        · simp at hn
      · exact ⟨none, 0, by simp [E'], ⟨rfl, rfl⟩, by simp [E']⟩
      · simp [ownS, E'] at hb
    · rw [RepV_lst]
      refine ⟨none, 0, rfl, Nat.le_refl _, ⟨by simp [E'], fun n hn => ?_⟩, rfl, rfl⟩
      have hn : (if d = d then (if g + 1 = g + 1 then some 0 else none) else E.lim d (g + 1)) = some n := hn
      simp at hn
      subst hn
      exact ⟨Nat.le_refl _, fun _ => by simp [E']⟩
theorem mkSl_ok {t e : TypeId} {d : Nat} (hG : Good X E sl) (hu : P.underlying t = some (.slice e)) (h8 : P.underlying e = some (.int .u8)) (hc : P.cellsOf e = 1) (hb1 : P.bytesOf e = 1) (hz : ∃ i, P.info? e = some i ∧ i.zero = some (.int .u8 0))
    (ha : RepV E x a) (hb : RepV E y b) (h : cMkSl d sl x y = some (v, sl')) : ∃ mv w', (Instr.makeSlice t a b).run P E.w = .ok mv w' ∧ Eff X E v sl' mv w' := by
  obtain ⟨i, hi, hz⟩ := hz
  unfold cMkSl at h
  split at h
  case h_2 => simp at h
  rename_i n m
  simp only [RepV_int] at ha hb
  subst ha hb
  split at h
  case isFalse => simp at h
  rename_i hnm
  obtain ⟨h0, h1, h2⟩ := hnm
  have hby : i.bytes = 1 := by simpa [Program.bytesOf, hi] using hb1
  have hsz : i.size = 1 := by simpa [Program.cellsOf, hi] using hc
  have wn : IntKind.i64.wrap n = n := by simp [IntKind.wrap, IntKind.bits, IntKind.signed]; omega
  have wm : IntKind.i64.wrap m = m := by simp [IntKind.wrap, IntKind.bits, IntKind.signed]; omega
  have hrun : (Instr.makeSlice t (.int .i64 n) (.int .i64 m)).run P E.w = .ok (.slice (some ⟨E.w.heap.size, 0, none⟩) n.toNat m.toNat) (E.w.alloc (.cells (Array.replicate m.toNat (.int .u8 0)) e)) := by
    unfold Instr.makeSlice
    simp only [Sem.run_bind, run_underlying hu, Result.andThen_ok, asInt, asIntOf, Sem.run_pure, typeInfo, run_program, hi, hby, wn, wm]
    have hlarge : (decide (m < 0) || decide ((1 : Int) * m > 2 ^ 48)) = false := by simp; omega
    have hif : ((decide (m < 0) || decide ((1 : Int) * m > 2 ^ 48)) || decide (n < 0) || decide (n > m)) = false := by simp; omega
    have e1 : ((1 : Nat) : Int) = 1 := rfl
    simp only [e1, hlarge, Bool.false_or]
    rw [if_neg (by simp; omega)]
    simp only [Sem.run_bind, run_askRoom, Result.andThen_ok, sizeOf, typeInfo, run_program, hi, hsz, Sem.run_pure, Nat.mul_one]
    by_cases hm0 : m.toNat = 0
    · rw [if_pos hm0]
      simp [hm0, newRow]
      congr 2
      apply Array.ext'
      simp
    · rw [if_neg hm0]
      simp only [Sem.run_bind, zeroValue_ok hi hz, Result.andThen_ok, Sem.run_pure, newRow, run_newObj]
      congr 1
      show E.w.alloc _ = E.w.alloc _
      congr 2
      apply Array.ext'
      simp [Value.cells, Nat.mod_one]
      apply List.ext_getElem?
      intro j
      by_cases hj : j < m.toNat
      · simp [hj]
      · simp [hj]
  have hpre : ((List.replicate n.toNat (0 : UInt8)).map fun x => Value.int .u8 (x.toNat : Int)) <+: (Array.replicate m.toNat (Value.int .u8 0)).toList := by
    simp only [List.map_replicate, Array.toList_replicate]
    exact ⟨List.replicate (m.toNat - n.toNat) (Value.int .u8 0), by
      have : (Value.int .u8 ((0 : UInt8).toNat : Int)) = Value.int .u8 0 := rfl
      rw [this, List.replicate_append_replicate]; congr 1; omega⟩
  have := bytes_obj (e := e) (fr := (0, 0)) hG h hpre (fun i _ h => by simp at h)
  simp only [List.length_replicate, Array.size_replicate] at this
  exact ⟨_, _, hrun, this⟩
theorem s2b_ok {src dst e : TypeId} {d : Nat} (hG : Good X E sl) (hs : P.underlying src = some .string) (hd : P.underlying dst = some (.slice e)) (h8 : P.underlying e = some (.int .u8))
    (ha : RepV E x a) (h : cS2b d sl x = some (v, sl')) : ∃ mv w', (convert src dst a).run P E.w = .ok mv w' ∧ Eff X E v sl' mv w' := by
  cases x <;> simp only [cS2b] at h <;> try (simp at h; done)
  rename_i s
  simp only [RepV_str] at ha
  subst ha
  split at h
  case isFalse => simp at h
  rename_i hl
  obtain ⟨le1, hG1⟩ := drew_good hG
  let need := s.length
  let cap := (Question.appendCap need 0 e).cut (E.w.tape E.w.drawn (.appendCap need 0 e))
  have hcap : need ≤ cap := by show need ≤ need + _; omega
  let cs : Array Value := (s.map fun x => Value.int .u8 (x.toNat : Int)).toArray ++ Array.replicate (cap - need) (.int .u8 0)
  have hsz : cs.size = cap := by simp [cs]; omega
  have hpre : (s.map fun x => Value.int .u8 (x.toNat : Int)) <+: cs.toList := ⟨_, by simp [cs]; rfl⟩
  have hb := bytes_obj (e := e) (fr := (cs.size, cs.size + 1)) hG1 (bs := s) (cs := cs) h hpre (fun i hi h => by simp at h; omega)
  have hrun : (convert src dst (.string ⟨⟨s⟩⟩)).run P E.w = .ok (.slice (some ⟨E.w.heap.size, 0, none⟩) s.length cs.size) (E.w.drew.alloc (.cells cs e (cs.size, cs.size + 1))) := by
    have e1 : (⟨⟨s⟩⟩ : ByteArray).size = need := rfl
    have hcv : convert src dst (.string ⟨⟨s⟩⟩) = (do let s1 ← underlying src; let d1 ← underlying dst; match s1, d1, (Value.string ⟨⟨s⟩⟩) with
      | _, .int k, .int _ n => Conv.intToInt k n
      | _, _, _ => convert src dst (.string ⟨⟨s⟩⟩)) ∨ True := .inr trivial
    simp only [convert, Sem.run_bind, run_underlying hs, run_underlying hd, run_underlying h8, Result.andThen_ok, Conv.stringToBytes, run_choose, Question.forced, Bool.false_eq_true, if_false, e1]
    simp only [newRow, Sem.run_bind, run_newObj, Result.andThen_ok, Sem.run_pure, markStringish, run_shape]
    have hheap : ({ ({ E.w with drawn := E.w.drawn + 1 } : World) with heap := E.w.heap.push (.cells cs e) } : World) = E.w.drew.alloc (.cells cs e) := rfl
    have hcs : ((⟨⟨s⟩⟩ : ByteArray).data.map fun b => Value.int .u8 b.toNat) ++ Array.replicate (cap - need) (.int .u8 0) = cs := by
      show _ = _ ++ _
      congr 1
      apply Array.ext'
      simp
    have hcap' : (Question.appendCap need 0 e).cut (E.w.tape E.w.drawn (.appendCap need 0 e)) = cap := rfl
    simp only [hcap', hcs]
    rw [hheap]
    have hshape : (E.w.drew.alloc (.cells cs e)).shape? E.w.heap.size = some (e, cs.size) := by
      unfold World.shape?
      have : (E.w.drew.alloc (.cells cs e)).heap[E.w.heap.size]? = some (.cells cs e) := heap_alloc_new (w := E.w.drew)
      rw [this]
    simp only [hshape, run_freeze, Result.andThen_ok, Sem.run_pure, hsz]
    congr 1
    · unfold World.freeze
      rw [if_neg (by omega)]
      show World.mk _ _ _ _ _ = World.mk _ _ _ _ _
      have : (E.w.drew.alloc (.cells cs e)).heap.modify E.w.heap.size (fun
          | .cells c elem (lo, hi) => .cells c elem (if lo == hi then (cap, cap + 1) else (min lo cap, max hi (cap + 1)))
          | o => o) = E.w.drew.heap.push (.cells cs e (cap, cap + 1)) := by
        apply Array.ext_getElem?
        intro k
        rw [Array.getElem?_modify]
        by_cases e : E.w.heap.size = k
        · subst e
          rw [if_pos rfl]
          have : (E.w.drew.alloc (.cells cs e)).heap[E.w.heap.size]? = some (.cells cs e) := heap_alloc_new (w := E.w.drew)
          rw [this]
          exact (heap_alloc_new (w := E.w.drew) (o := .cells cs _ (cap, cap + 1))).symm
        · rw [if_neg e]
          show (E.w.heap.push _)[k]? = (E.w.heap.push _)[k]?
          rw [Array.getElem?_push, Array.getElem?_push, if_neg (by omega), if_neg (by omega)]
      congr 1
  refine ⟨_, _, hrun, ?_⟩
  obtain ⟨E', k1, k2, k3, k4⟩ := hb
  exact ⟨E', le1.trans k1, k2, k3, k4⟩
end ops
end Go.Ev
