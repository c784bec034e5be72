/- Part 6 of a proof: what the functions yield. It stands by itself; no condition. -/
import Derived.Test.YtbhaeahfgiiaiaaE2
import Derived.Test.YtbhaeahfgiiaiaaE5
/- Bytes, sums, errors: small facts. -/
namespace Go.Ev
set_option linter.unusedSimpArgs false
set_option linter.unusedVariables false
set_option maxRecDepth 4000
set_option maxHeartbeats 2000000
/-- What bytes weigh, from an even or odd place on. -/
def sumAt : Nat → List UInt8 → Nat
  | _, [] => 0
  | p, c :: s => (if p % 2 = 0 then c.toNat * 256 else c.toNat) + sumAt (p + 1) s
theorem sumAt_append : ∀ (a b : List UInt8) (p : Nat), sumAt p (a ++ b) = sumAt p a + sumAt (p + a.length) b
  | [], b, p => by simp [sumAt]
  | c :: a, b, p => by
    simp only [List.cons_append, sumAt, sumAt_append a b (p + 1), List.length_cons]
    rw [show p + 1 + a.length = p + (a.length + 1) by omega]
    omega
theorem sumAt_le : ∀ (s : List UInt8) (p : Nat), sumAt p s ≤ 65280 * s.length
  | [], p => by simp [sumAt]
  | c :: s, p => by
    have := sumAt_le s (p + 1)
    have hc := c.toNat_lt
    simp only [sumAt, List.length_cons]
    split <;> omega
theorem sumAt_two : ∀ (s : List UInt8) (p : Nat), sumAt (p + 2) s = sumAt p s
  | [], p => rfl
  | c :: s, p => by
    simp only [sumAt]
    rw [show p + 2 + 1 = p + 1 + 2 by omega, sumAt_two s (p + 1), show (p + 2) % 2 = p % 2 by omega]
/-- Brought below 65536. -/
def ones (n : Nat) : Nat := if n = 0 then 0 else (n - 1) % 65535 + 1
theorem ones_le (n : Nat) : ones n ≤ 65535 := by unfold ones; split <;> omega
theorem ones_small {n : Nat} (h : n ≤ 65535) : ones n = n := by unfold ones; split <;> omega
theorem ones_step {n : Nat} (h : 65535 < n) : ones (n / 65536 + n % 65536) = ones n := by
  unfold ones
  rw [if_neg (by omega), if_neg (by omega)]
  omega
theorem ones_add (a b : Nat) : ones (ones a + b) = ones (a + b) := by
  unfold ones
  by_cases h : a = 0
  · subst h; simp
  · rw [if_neg h, if_neg (by omega), if_neg (by omega)]
    omega
theorem ones_zero {n : Nat} : ones n = 0 ↔ n = 0 := by unfold ones; split <;> omega
def wordsN : List UInt8 → List Nat
  | [] => []
  | [a] => [256 * a.toNat]
  | a :: b :: s => (256 * a.toNat + b.toNat) :: wordsN s
theorem wordsN_len : ∀ (s : List UInt8), (wordsN s).length = (s.length + 1) / 2
  | [] => rfl
  | [a] => by simp [wordsN]
  | a :: b :: s => by simp only [wordsN, List.length_cons, wordsN_len s]; omega
theorem wordsN_sum : ∀ (s : List UInt8), (wordsN s).sum = sumAt 0 s
  | [] => rfl
  | [a] => by simp [wordsN, sumAt]; omega
  | a :: b :: s => by
    simp only [wordsN, sumAt, List.sum_cons, wordsN_sum s]
    rw [show (0 + 1 + 1 : Nat) = 0 + 2 by rfl, sumAt_two]
    simp
    omega
theorem wordsN_le : ∀ (s : List UInt8), ∀ w ∈ wordsN s, w ≤ 65535
  | [], w, h => by simp [wordsN] at h
  | [a], w, h => by
    have := a.toNat_lt
    simp [wordsN] at h; omega
  | a :: b :: s, w, h => by
    have := a.toNat_lt
    have := b.toNat_lt
    simp only [wordsN, List.mem_cons] at h
    rcases h with h | h
    · omega
    · exact wordsN_le s w h
/-- The words of an even beginning. -/
theorem wordsN_take : ∀ (s : List UInt8) (i : Nat) (a b : UInt8), s[2 * i]? = some a → s[2 * i + 1]? = some b → wordsN (s.take (2 * (i + 1))) = wordsN (s.take (2 * i)) ++ [256 * a.toNat + b.toNat]
  | [], i, a, b, h, _ => by simp at h
  | [c], 0, a, b, h, h2 => by simp at h2
  | [c], i + 1, a, b, h, _ => by simp at h
  | c :: d :: s, 0, a, b, h, h2 => by
    simp at h h2
    subst h h2
    rfl
  | c :: d :: s, i + 1, a, b, h, h2 => by
    have h' : s[2 * i]? = some a := by rw [← h, show 2 * (i + 1) = 2 * i + 1 + 1 by omega]; simp
    have h2' : s[2 * i + 1]? = some b := by rw [← h2, show 2 * (i + 1) + 1 = 2 * i + 1 + 1 + 1 by omega]; simp
    have ih := wordsN_take s i a b h' h2'
    rw [show 2 * (i + 1 + 1) = 2 * (i + 1) + 1 + 1 by omega, show 2 * (i + 1) = 2 * i + 1 + 1 by omega]
    simp only [List.take_succ_cons, wordsN, List.cons_append]
    rw [← ih]
    rfl
theorem wordsN_odd : ∀ (s : List UInt8), s.length % 2 = 1 → wordsN (s ++ [0]) = wordsN s
  | [], h => by simp at h
  | [a], h => by simp [wordsN]
  | a :: b :: s, h => by
    simp only [List.cons_append, wordsN]
    rw [wordsN_odd s (by simp only [List.length_cons] at h; omega)]
abbrev intsLV (l : List Nat) : List LV := l.map fun (w : Nat) => LV.int .i64 (w : Int)
theorem wAppend_tag {e by' d t g n sz : Nat} {sl : Slots} {l new : List LV} (hs : sl t = .tag g n sz) (hn : n = l.length) (hz : sz = e) (hl : (l.all fun v => decide (flatLen v = e)) = true) (hnew : (new.all fun v => decide (flatLen v = e)) = true) (hne : new ≠ []) (hb : (l.length + new.length) * by' ≤ 1099511627776) :
    wAppend e by' d sl (.lst (some (t, g)) l) (.lst none new) = some (.lst (some (t, g)) (l ++ new), upd sl t (.tag g (n + new.length) sz)) := by
  simp only [wAppend, newEls, hnew, if_true, Option.bind_some, hne, if_false, hs]
  rw [if_pos ⟨trivial, hn, hz, hl, hb⟩]
theorem ints_flat (l : List Nat) : ((intsLV l).all fun v => decide (flatLen v = 1)) = true := by
  rw [List.all_eq_true]
  intro v hv
  obtain ⟨w, _, rfl⟩ := List.mem_map.1 hv
  simp [flatLen]
/-- A number's n bytes. -/
def beB (n x : Nat) : List UInt8 := (List.range n).map fun i => UInt8.ofNat (x / 256 ^ (n - 1 - i))
theorem beB_len (n x : Nat) : (beB n x).length = n := by simp [beB]
theorem beB_get {n x i : Nat} (h : i < n) : (beB n x)[i]? = some (UInt8.ofNat (x / 256 ^ (n - 1 - i))) := by simp [beB, h]
theorem u8_wrap (y : Nat) : IntKind.u8.wrap (y : Int) = ((y % 256 : Nat) : Int) := by
  simp [IntKind.wrap, IntKind.bits, IntKind.signed]
theorem set_mid {b : List UInt8} {n i : Nat} {c : UInt8} (hb : b.length = n) (hi : i < n) (hc : b[i]? = some c) :
    (b.take i ++ List.replicate (n - i) 0).set i c = b.take (i + 1) ++ List.replicate (n - (i + 1)) 0 := by
  have e : List.replicate (n - i) (0 : UInt8) = 0 :: List.replicate (n - (i + 1)) 0 := by
    rw [show n - i = (n - (i + 1)) + 1 by omega, List.replicate_succ]
  rw [e, List.take_add_one, hc]
  have hl : (b.take i).length = i := by rw [List.length_take]; omega
  rw [List.set_append]
  rw [if_neg (by omega), hl]
  simp
def sumS (s : List UInt8) : Int := 65535 - (ones (sumAt 0 s) : Nat)
theorem sumS_le (s : List UInt8) : 0 ≤ sumS s ∧ sumS s ≤ 65535 := by
  have := ones_le (sumAt 0 s)
  unfold sumS
  omega
theorem ue_ag3 {c : Int} : LV.isAgg (faultLV c) = false := by unfold faultLV; exact Eq.trans rfl rfl
def fE (c : Int) : LV := if c = 0 then .nili else faultLV c
theorem fe_ag {c : Int} : LV.isAgg (fE c) = false := by unfold fE faultLV; split <;> exact Eq.trans rfl rfl
theorem fe_st {c : Int} : stor (fE c) = true := by unfold fE faultLV; split <;> exact Eq.trans rfl rfl
theorem fe_pl {c : Int} : plainRes (fE c) = true := by unfold fE faultLV; split <;> exact Eq.trans rfl rfl
theorem fe_fl {c : Int} : flatLen (fE c) = 1 := by unfold fE faultLV; split <;> simp only [flatLen]
theorem fe_ps {c : Int} : psl (fE c) = some (fE c) := by unfold fE faultLV; split <;> simp only [psl]
theorem fe_sv {c : Int} {sl : Slots} : sealV sl (fE c) = some (fE c) := by unfold fE faultLV; split <;> simp only [sealV, psl]
theorem fe_ov {c : Int} {sl : Slots} : outV none sl (fE c) = some (fE c) := by unfold fE faultLV; split <;> simp only [outV, sealV, psl]
attribute [go_sem ↓] fe_ag fe_st fe_pl fe_fl fe_ps fe_sv fe_ov
theorem toBytes_byteLV : ∀ l : List UInt8, toBytes (l.map byteLV) = some l
  | [] => by simp only [List.map_nil, toBytes]
  | a :: l => by
    show toBytes (.int .u8 (a.toNat : Int) :: l.map byteLV) = _
    rw [c_tb1, toBytes_byteLV l]
    simp [ob]
theorem lt1 {x : Int} (h : 0 ≤ x) (h1 : x < 256) : 0 ≤ x ∧ x < ((256 ^ 1 : Nat) : Int) := ⟨h, h1⟩
theorem lt2 {x : Int} (h : 0 ≤ x) (h1 : x < 65536) : 0 ≤ x ∧ x < ((256 ^ 2 : Nat) : Int) := ⟨h, h1⟩
theorem get_def {s : List UInt8} {i : Nat} (h : i < s.length) : s[i]? = some (s.getD i 0) := by
  rw [List.getD_eq_getElem?_getD, List.getElem?_eq_getElem h]; rfl
abbrev w16 (a b : UInt8) : Nat := 256 * a.toNat + b.toNat
theorem w16_or (a b : UInt8) : bitsOf .or .i64 (((a.toNat * 256 : Nat)) : Int) (b.toNat : Int) = ((w16 a b : Nat) : Int) := by
  have ha := a.toNat_lt
  have hb := b.toNat_lt
  rw [bits_or_nat (by simp [IntKind.max, IntKind.signed, IntKind.bits]; omega) (by simp [IntKind.max, IntKind.signed, IntKind.bits]; omega)]
  congr 1
  show _ = 256 * a.toNat + b.toNat
  rw [show a.toNat * 256 = a.toNat <<< 8 by rw [Nat.shiftLeft_eq], ← Nat.shiftLeft_add_eq_or_of_lt hb, Nat.shiftLeft_eq]
  simp only [Nat.reducePow]
  omega
/-- Two bytes at a place. -/
def wAt (s : List UInt8) (i : Nat) : Nat := w16 (s.getD i 0) (s.getD (i + 1) 0)
theorem wAt_le (s : List UInt8) (i : Nat) : wAt s i ≤ 65535 := by
  have := (s.getD i 0).toNat_lt; have := (s.getD (i + 1) 0).toNat_lt
  unfold wAt w16; omega
def bAt (s : List UInt8) (i : Nat) : Nat := (s.getD i 0).toNat
theorem bAt_le (s : List UInt8) (i : Nat) : bAt s i ≤ 255 := by have := (s.getD i 0).toNat_lt; unfold bAt; omega
theorem e_cBslM {R : Type} {m d : Nat} {ps : List (Nat × LV)} {sl : Slots} {K2 : LV × Slots → Option R} : ob (cBslM m ps d sl) K2 = ob (putParts (.bytes (List.replicate m 0)) ps) fun v => ob (asBytes v) fun b => ob (cBytes b d sl) K2 := by
  unfold cBslM
  cases putParts (.bytes (List.replicate m 0)) ps with
  | none => rfl
  | some v => cases v <;> rfl
theorem cBytes_eq {R : Type} {b : List UInt8} {d : Nat} {K2 : LV × Slots → Option R} (h : b.length ≤ 1099511627776) : ob (cBytes b d noSlots) K2 = K2 (.arr d 1 [] 0 0 b.length, upd noSlots d (.obj 1 (.bytes b))) := by
  simp only [cBytes, mkObj, no_at]
  rfl
theorem wApp_arr {d t g : Nat} {sl : Slots} {b s : List UInt8} (hb : b.length + s.length ≤ 1099511627776) :
    wAppend 1 1 d (upd sl t (.obj g (.bytes b))) (.arr t g [] 0 0 b.length) (.lst none (s.map byteLV)) = some (.arr t (g + 1) [] 0 0 (b.length + s.length), upd (upd sl t (.obj g (.bytes b))) t (.obj (g + 1) (.bytes (b ++ s)))) := by
  have h1 : ((s.map byteLV).all fun v => decide (flatLen v = 1)) = true := by
    rw [List.all_eq_true]; intro v hv; obtain ⟨w, _, rfl⟩ := List.mem_map.1 hv; simp [byteLV, flatLen]
  have h2 : ((s.map byteLV).all okByte) = true := by
    rw [List.all_eq_true]; intro v hv; obtain ⟨w, _, rfl⟩ := List.mem_map.1 hv
    have := w.toNat_lt
    simp [byteLV, okByte]; omega
  simp only [wAppend, newEls, h1, if_true, Option.bind_some, upd_same]
  rw [if_pos ⟨trivial, trivial, trivial, trivial, by simpa using hb, h2⟩, toBytes_byteLV]
  rfl
theorem wApp_str {d t g : Nat} {sl : Slots} {b s : List UInt8} (hb : b.length + s.length ≤ 1099511627776) :
    wAppend 1 1 d (upd sl t (.obj g (.bytes b))) (.arr t g [] 0 0 b.length) (.str s) = some (.arr t (g + 1) [] 0 0 (b.length + s.length), upd (upd sl t (.obj g (.bytes b))) t (.obj (g + 1) (.bytes (b ++ s)))) := by
  have h2 : ((s.map byteLV).all okByte) = true := by
    rw [List.all_eq_true]; intro v hv; obtain ⟨w, _, rfl⟩ := List.mem_map.1 hv
    have := w.toNat_lt
    simp [byteLV, okByte]; omega
  simp only [wAppend, newEls, if_true, Option.bind_some, upd_same]
  rw [if_pos ⟨trivial, trivial, trivial, trivial, by simpa using hb, h2⟩, toBytes_byteLV]
  rfl
theorem u8w (x : Nat) : IntKind.u8.wrap (x : Int) = ((UInt8.ofNat x).toNat : Int) := by rw [u8_wrap, UInt8.toNat_ofNat']
theorem u8_ofNat_mod (x : Nat) : UInt8.ofNat (x % 256) = UInt8.ofNat x := by apply UInt8.toNat_inj.1; simp
theorem u8_lt (c : UInt8) : (c.toNat : Int) < 256 := by have := c.toNat_lt; omega
theorem beB1 (x : Nat) : beB 1 x = [UInt8.ofNat x] := by simp [beB, List.range_succ]
theorem beB2 (x : Nat) : beB 2 x = [UInt8.ofNat (x / 256), UInt8.ofNat x] := by simp [beB, List.range_succ]
theorem div256 {x : Nat} (h : x ≤ 1000000) : IntKind.i64.wrap (Int.tdiv (x : Int) 256) = ((x / 256 : Nat) : Int) := by
  rw [show Int.tdiv (x : Int) 256 = ((x / 256 : Nat) : Int) from rfl, wrap_id (by omega) (by omega)]
theorem mod256 (x : Nat) : Int.tmod (x : Int) 256 = ((x % 256 : Nat) : Int) := rfl
theorem sum_zeros {h r : List UInt8} (hh : h.length % 2 = 0) : sumAt 0 (h ++ (0 :: 0 :: r)) = sumAt 0 (h ++ r) := by
  simp only [sumAt_append, sumAt, UInt8.toNat_zero]
  rw [show 0 + h.length + 1 + 1 = 0 + h.length + 2 by omega, sumAt_two]
  split <;> split <;> omega
theorem w16_beB {x : Nat} (h : x < 65536) : w16 (UInt8.ofNat (x / 256)) (UInt8.ofNat x) = x := by
  simp only [w16, UInt8.toNat_ofNat']; omega
theorem flip_tab : ∀ c : Fin 256, ∀ j : Fin 8, c.val ^^^ 2 ^ j.val = c.val + 2 ^ j.val ∨ (c.val ^^^ 2 ^ j.val) + 2 ^ j.val = c.val := by
  decide +kernel
theorem flip_nat {c j : Nat} (hc : c < 256) (hj : j < 8) : c ^^^ 2 ^ j = c + 2 ^ j ∨ (c ^^^ 2 ^ j) + 2 ^ j = c := flip_tab ⟨c, hc⟩ ⟨j, hj⟩
theorem ones_full {n : Nat} : ones n = 65535 ↔ 0 < n ∧ n % 65535 = 0 := by unfold ones; split <;> omega
/-- With its sum written in, a text is right. -/
theorem right_of {t x : Nat} (hx : x = if 65535 - ones t = 0 then 65535 else 65535 - ones t) : ones (t + x) = 65535 := by
  have h1 := ones_le t
  rw [← ones_add, ones_full]
  split at hx <;> omega
theorem right_of0 {t : Nat} : ones (t + (65535 - ones t)) = 65535 ∨ t = 0 ∧ False := by
  left
  have h1 := ones_le t
  rw [← ones_add, ones_full]
  omega
theorem sumAt_set : ∀ (s : List UInt8) (p k : Nat) (c d : UInt8), s[k]? = some c → sumAt p (s.set k d) + (if (p + k) % 2 = 0 then c.toNat * 256 else c.toNat) = sumAt p s + (if (p + k) % 2 = 0 then d.toNat * 256 else d.toNat)
  | [], p, k, c, d, h => by simp at h
  | a :: s, p, 0, c, d, h => by
    simp at h; subst h
    simp only [List.set_cons_zero, sumAt, Nat.add_zero]
    omega
  | a :: s, p, k + 1, c, d, h => by
    have := sumAt_set s (p + 1) k c d (by simpa using h)
    simp only [List.set_cons_succ, sumAt]
    rw [show p + 1 + k = p + (k + 1) by omega] at this
    omega
theorem pow_not {j m : Nat} (hj : j < 8) (hm : m = 2 ^ j * 256 ∨ m = 2 ^ j) : 0 < m ∧ m < 65535 := by
  have h1 : 0 < 2 ^ j := Nat.two_pow_pos j
  have h2 : 2 ^ j ≤ 2 ^ 7 := Nat.pow_le_pow_right (by decide) (by omega)
  have h3 : (2 : Nat) ^ 7 = 128 := by decide
  omega
/-- A bit that is turned is told by the sum. -/
theorem flip_told {s : List UInt8} {p k j : Nat} {c d : UInt8} (hk : s[k]? = some c) (hj : j < 8) (hd : d.toNat = c.toNat ^^^ 2 ^ j) (ho : ones (sumAt p s) = 65535) : ones (sumAt p (s.set k d)) ≠ 65535 := by
  have h1 := sumAt_set s p k c d hk
  have h2 := flip_nat c.toNat_lt hj
  rw [← hd] at h2
  have ho := ones_full.1 ho
  intro h
  have h := ones_full.1 h
  have h3 : 0 < 2 ^ j := Nat.two_pow_pos j
  have h4 : 2 ^ j ≤ 2 ^ 7 := Nat.pow_le_pow_right (by decide) (by omega)
  have h5 : (2 : Nat) ^ 7 = 128 := by decide
  generalize 2 ^ j = m at *
  split at h1 <;> omega
theorem sumS_zero {s : List UInt8} : sumS s = 0 ↔ ones (sumAt 0 s) = 65535 := by unfold sumS; omega
theorem bAt0 {c : UInt8} {l : List UInt8} : bAt (c :: l) 0 = c.toNat := Eq.trans rfl rfl
theorem bAts {c : UInt8} {l : List UInt8} {i : Nat} : bAt (c :: l) (i + 1) = bAt l i := by simp [bAt]
theorem wAt0 {c d : UInt8} {l : List UInt8} : wAt (c :: d :: l) 0 = w16 c d := Eq.trans rfl rfl
theorem wAts {c : UInt8} {l : List UInt8} {i : Nat} : wAt (c :: l) (i + 1) = wAt l i := by simp [wAt]
theorem w16_hi (a b : UInt8) : UInt8.ofNat (w16 a b / 256) = a := by
  apply UInt8.toNat_inj.1
  have := a.toNat_lt; have := b.toNat_lt
  simp only [UInt8.toNat_ofNat', w16]; omega
theorem w16_lo (a b : UInt8) : UInt8.ofNat (w16 a b) = b := by
  apply UInt8.toNat_inj.1
  have := a.toNat_lt; have := b.toNat_lt
  simp only [UInt8.toNat_ofNat', w16]; omega
theorem len_cons {k : Nat} {s : List UInt8} (h : k + 1 ≤ s.length) : ∃ a t, s = a :: t ∧ k ≤ t.length := by
  cases s with
  | nil => simp at h
  | cons a t => exact ⟨a, t, rfl, by simpa using h⟩
theorem nat_of {x : Int} (h : 0 ≤ x) : ∃ y : Nat, x = (y : Int) := Int.eq_ofNat_of_zero_le h
end Go.Ev

/- A list that grows from nil. -/
namespace Go.Ev
set_option linter.unusedSimpArgs false
set_option linter.unusedVariables false
set_option maxRecDepth 4000
set_option maxHeartbeats 2000000
def tagL (t : Nat) : List LV → LV
  | [] => .nils
  | x :: l => .lst (some (t, 1)) (x :: l)
def tagS (t sz : Nat) : List LV → Slots
  | [] => noSlots
  | x :: l => upd noSlots t (.tag 1 (l.length + 1) sz)
section
variable {t e by' : Nat} {l : List LV} {x : LV} {sl : Slots} {R : Type} {K : LV → Option R}
theorem wApp_tag (hl : (l.all fun v => decide (flatLen v = e)) = true) (hx : flatLen x = e) (hb : (l.length + 1) * by' ≤ 1099511627776) :
    wAppend e by' t (tagS t e l) (tagL t l) (.lst none [x]) = some (tagL t (l ++ [x]), tagS t e (l ++ [x])) := by
  have hn : (([x] : List LV).all fun v => decide (flatLen v = e)) = true := by simp [hx]
  cases l with
  | nil =>
    simp only [tagL, tagS, wAppend, newEls, hn, if_true, Option.bind_some]
    rw [if_neg (by simp), if_pos (by simpa using hb)]
    rfl
  | cons y l =>
    simp only [tagL, tagS, wAppend, newEls, hn, if_true, Option.bind_some, upd_same]
    rw [if_neg (by simp), if_pos ⟨trivial, rfl, trivial, hl, by simpa using hb⟩]
    simp only [upd_upd, List.cons_append, List.length_append, List.length_cons, List.length_nil]
theorem tg_len : ob (pr.len false (tagL t l)) K = K (.int .i64 (l.length : Int)) := by
  cases l with
  | nil => exact e_lenN
  | cons y l => exact e_lenL
theorem tg_ag : LV.isAgg (tagL t l) = false := by cases l <;> exact Eq.trans rfl rfl
theorem tg_st : stor (tagL t l) = true := by cases l <;> exact Eq.trans rfl rfl
theorem tg_pl : plainRes (tagL t l) = true := by cases l <;> exact Eq.trans rfl rfl
theorem tg_fl : flatLen (tagL t l) = 1 := by cases l <;> simp only [tagL, flatLen]
theorem tg_ps : psl (tagL t l) = some (.lst none l) := by cases l <;> simp only [tagL, psl]
theorem tg_sv : sealV sl (tagL t l) = some (.lst none l) := by cases l <;> simp only [tagL, sealV, psl]
theorem tg_ov : outV none sl (tagL t l) = some (.lst none l) := by cases l <;> simp only [tagL, outV, sealV, psl]
theorem tg_rf : refOk (tagS t e l) (tagL t l) = true := by
  cases l with
  | nil => simp only [tagL, refOk]
  | cons y l => simp only [tagL, tagS, refOk, upd_same]
theorem tg_bk : back noSlots (tagS t e l) = tagS t e l := by
  cases l with
  | nil => exact back_self
  | cons y l => exact c_bktag
theorem ext_flat (l : List (Int × List UInt8)) : ((l.map extLV).all fun v => decide (flatLen v = 2)) = true := by
  rw [List.all_eq_true]
  intro v hv
  obtain ⟨w, _, rfl⟩ := List.mem_map.1 hv
  simp [flatLen, sumLen]
end
attribute [go_sem ↓] tg_len tg_ag tg_st tg_pl tg_fl tg_ps tg_sv tg_ov tg_rf tg_bk
end Go.Ev

/- Layer 1: a number's bytes. -/
namespace Go.Ev
set_option linter.unusedSimpArgs false
set_option linter.unusedVariables false
set_option maxRecDepth 4000
set_option maxHeartbeats 2000000
def bigR (x : Int) (m : Nat) : LV := if 0 ≤ x ∧ x < ((256 ^ m : Nat) : Int) then .tup [.str (beB m x.toNat), .nili] else .tup [.str [], faultLV 13]
section
variable {S : Sys} (hS : Has S) (n : Nat)
include hS
theorem ev_Big (x : Int) (m : Nat) (hm : m = 1 ∨ m = 2 ∨ m = 4) (hx : I64 x) : S.ev (n + 1) id_num_Big [.int .i64 x, .int .i64 (m : Int)] none = some (bigR x m, none) := by
  rw [Sys.step hS.h_num_Big, F_num_Big_eq]
  unfold F_num_Big
  (try simp only [guard_merge, or_merge, and_merge, or_pick, and_pick, guard_or, guard_and]); simp only [to_ob]
  have f1 : ¬ ((¬ (m : Int) = 1 ∧ ¬ (m : Int) = 2) ∧ ¬ (m : Int) = 4) := by omega
  have e1 : IntKind.i64.wrap (8 * (m : Int)) = ((8 * m : Nat) : Int) := by rw [wrap_id (by omega) (by omega)]; omega
  have e2 : IntKind.i64.wrap (1 * 2 ^ min (8 * m) 64) = ((256 ^ m : Nat) : Int) := by
    rcases hm with rfl | rfl | rfl <;> rfl
  have f2 : ¬ ((8 * m : Nat) : Int) < 0 := by omega
  unfold bigR
  by_cases c : 0 ≤ x ∧ x < ((256 ^ m : Nat) : Int)
  · have c' : ¬ (x < 0 ∨ ((256 ^ m : Nat) : Int) ≤ x) := by omega
    rw [if_pos c]
    obtain ⟨y, rfl⟩ := Int.eq_ofNat_of_zero_le c.1
    have hm4 : m ≤ 4 := by omega
    have hy : (y : Int) ≤ 9223372036854775807 := hx.2
    have f3 : (m : Int) ≤ 1099511627776 := by omega
    have f4 : (0 : Int) ≤ (m : Int) := by omega
    simp only [go_sem, ↓reduceIte, reduceCtorEq, upd_ne, back_new (no_at), Nat.reduceAdd, Nat.reduceEqDiff, Nat.reduceMul, Nat.reduceSub, Nat.reduceLeDiff, Nat.reduceLT, Int.reduceToNat, Int.reduceLE, Int.reduceLT, Int.reduceEq, UInt8.reduceOfNat, f1, e1, e2, f2, c', f3, f4, Int.le_refl, List.length_replicate]
    refine while_rule (fun k q => ∃ i : Nat, q = ([.int .i64 (i : Int)], upd noSlots 36 (.obj 1 (.bytes ((beB m y).take i ++ List.replicate (m - i) 0)))) ∧ i + k = m) m ⟨0, by simp, by simp⟩ ?_
    rintro k q ⟨i, rfl, hi⟩
    simp only [go_sem, ↓reduceIte, reduceCtorEq, upd_ne, back_new (no_at), Nat.reduceAdd, Nat.reduceEqDiff, Nat.reduceMul, Nat.reduceSub, Nat.reduceLeDiff, Nat.reduceLT, Int.reduceToNat, Int.reduceLE, Int.reduceLT, Int.reduceEq, UInt8.reduceOfNat]
    refine nxt_ite (fun h => ?_) (fun h => ?_)
    · have hlt : i < m := by omega
      have g1 : IntKind.i64.wrap ((m : Int) - 1) = ((m - 1 : Nat) : Int) := by rw [wrap_id (by omega) (by omega)]; omega
      have g2 : IntKind.i64.wrap (((m - 1 : Nat) : Int) - (i : Int)) = ((m - 1 - i : Nat) : Int) := by rw [wrap_id (by omega) (by omega)]; omega
      have g3 : IntKind.i64.wrap (8 * ((m - 1 - i : Nat) : Int)) = ((8 * (m - 1 - i) : Nat) : Int) := by rw [wrap_id (by omega) (by omega)]; omega
      have g4 : ¬ ((8 * (m - 1 - i) : Nat) : Int) < 0 := by omega
      have g5 : Int.fdiv (y : Int) (2 ^ min (8 * (m - 1 - i)) 64) = ((y / 256 ^ (m - 1 - i) : Nat) : Int) := by
        have p1 : ((2 : Int) ^ (8 * (m - 1 - i))) = ((256 ^ (m - 1 - i) : Nat) : Int) := by
          rw [show (256 : Nat) = 2 ^ 8 from rfl, ← Nat.pow_mul]; simp
        rw [Nat.min_eq_left (by omega), p1, Int.fdiv_eq_ediv_of_nonneg _ (Int.natCast_nonneg _)]
        rfl
      have hl : ((beB m y).take i ++ List.replicate (m - i) 0).length = m := by rw [List.length_append, List.length_take, beB_len, List.length_replicate]; omega
      obtain ⟨c0, hc0⟩ : ∃ c0, ((beB m y).take i ++ List.replicate (m - i) 0)[i]? = some c0 := ⟨_, List.getElem?_eq_getElem (by omega)⟩
      have g6 : ((y / 256 ^ (m - 1 - i) % 256 : Nat) : Int) < 256 := by omega
      have g7 : (UInt8.ofNat (y / 256 ^ (m - 1 - i) % 256)) = UInt8.ofNat (y / 256 ^ (m - 1 - i)) := by
        apply UInt8.toNat_inj.1; simp
      have g8 := set_mid (beB_len m y) hlt (beB_get hlt)
      have g9 : IntKind.i64.wrap ((i : Int) + 1) = ((i + 1 : Nat) : Int) := by rw [wrap_id (by omega) (by omega)]; omega
      simp only [go_sem, ↓reduceIte, reduceCtorEq, upd_ne, back_new (no_at), Nat.reduceAdd, Nat.reduceEqDiff, Nat.reduceMul, Nat.reduceSub, Nat.reduceLeDiff, Nat.reduceLT, Int.reduceToNat, Int.reduceLE, Int.reduceLT, Int.reduceEq, UInt8.reduceOfNat, List.getElem?_map, Int.toNat_natCast, g1, g2, g3, g4, g5, u8_wrap, hl, hc0, hlt, byteLV, g6, g7, g8, g9]
      exact ⟨k - 1, by omega, i + 1, rfl, by omega⟩
    · rw [List.take_of_length_le (by rw [beB_len]; omega), show m - i = 0 by omega]
      have hb := beB_len m y
      have hb2 : m ≤ (beB m y).length := by omega
      have htk : (beB m y).take m = beB m y := List.take_of_length_le (by omega)
      simp only [go_sem, ↓reduceIte, reduceCtorEq, upd_ne, back_new (no_at), Nat.reduceAdd, Nat.reduceEqDiff, Nat.reduceMul, Nat.reduceSub, Nat.reduceLeDiff, Nat.reduceLT, Int.reduceToNat, Int.reduceLE, Int.reduceLT, Int.reduceEq, UInt8.reduceOfNat, Nxt, exIf, hb, htk, Nat.le_refl, Int.toNat_natCast]
  · have c' : x < 0 ∨ ((256 ^ m : Nat) : Int) ≤ x := by omega
    rw [if_neg c]
    simp only [go_sem, ↓reduceIte, reduceCtorEq, upd_ne, back_new (no_at), Nat.reduceAdd, Nat.reduceEqDiff, Nat.reduceMul, Nat.reduceSub, Nat.reduceLeDiff, Nat.reduceLT, Int.reduceToNat, Int.reduceLE, Int.reduceLT, Int.reduceEq, UInt8.reduceOfNat, f1, e1, e2, f2, c']
end
end Go.Ev

/- Bytes as a number. -/
namespace Go.Ev
set_option linter.unusedSimpArgs false
set_option linter.unusedVariables false
set_option maxRecDepth 10000
set_option maxHeartbeats 8000000
/-- The number that bytes are. -/
def numN (l : List UInt8) : Nat := l.foldl (fun x c => x * 256 + c.toNat) 0
theorem numN_snoc (l : List UInt8) (c : UInt8) : numN (l ++ [c]) = numN l * 256 + c.toNat := by simp [numN]
theorem numN_lt' : ∀ (l : List UInt8) (x : Nat), l.foldl (fun x c => x * 256 + c.toNat) x < (x + 1) * 256 ^ l.length
  | [], x => by simp
  | c :: l, x => by
    have h := numN_lt' l (x * 256 + c.toNat)
    have hc := c.toNat_lt
    have h2 : (x * 256 + c.toNat + 1) * 256 ^ l.length ≤ ((x + 1) * 256) * 256 ^ l.length := Nat.mul_le_mul_right _ (by omega)
    rw [List.foldl_cons, List.length_cons, Nat.pow_succ, Nat.mul_comm (256 ^ l.length) 256, ← Nat.mul_assoc]
    omega
theorem numN_lt (l : List UInt8) : numN l < 256 ^ l.length := by
  have := numN_lt' l 0
  unfold numN
  omega
abbrev rdLV (s : List UInt8) (a : Nat) : LV := .agg [.str s, .int .i64 (a : Int), .int .i64 0, .int .i64 0]
theorem drop_take_one {s : List UInt8} {i : Nat} {c : UInt8} (h : s[i]? = some c) : (s.drop i).take 1 = [c] := by
  obtain ⟨hi, rfl⟩ := List.getElem?_eq_some_iff.1 h
  rw [List.drop_eq_getElem_cons hi]; rfl
theorem drop_take_snoc {s : List UInt8} {a i : Nat} {c : UInt8} (h : s[a + i]? = some c) : (s.drop a).take (i + 1) = (s.drop a).take i ++ [c] := by
  rw [List.take_add_one, List.getElem?_drop, h]; rfl
theorem numN_two {s : List UInt8} {i : Nat} (h : i + 2 ≤ s.length) : numN ((s.drop i).take 2) = wAt s i := by
  have ha := get_def (s := s) (i := i) (by omega)
  have hb := get_def (s := s) (i := i + 1) (by omega)
  rw [drop_take_snoc hb, show (s.drop i).take 1 = [s.getD i 0] from drop_take_one ha]
  simp only [numN, List.foldl_cons, List.foldl_nil, List.cons_append, List.nil_append, wAt, w16]
  omega
theorem sub_get {s : List UInt8} {a i m : Nat} (h : i < m) (hl : a + i < s.length) : ((s.drop a).take m)[i]? = some (s.getD (a + i) 0) := by
  rw [List.getElem?_take_of_lt h, List.getElem?_drop, get_def hl]
theorem num4_lt (s : List UInt8) : numN (s.take 4) < 4294967296 := by
  have h := numN_lt (s.take 4)
  have h2 : 256 ^ (s.take 4).length ≤ 256 ^ 4 := Nat.pow_le_pow_right (by decide) (by rw [List.length_take]; omega)
  have h3 : (256 : Nat) ^ 4 = 4294967296 := by decide
  omega
end Go.Ev

/- Layer 1, the program's reader: so many bytes of a text, as a number. -/
namespace Go.Ev
set_option linter.unusedSimpArgs false
set_option linter.unusedVariables false
set_option maxRecDepth 4000
set_option maxHeartbeats 2000000
abbrev nrLV (s : List UInt8) (a : Nat) : LV := .agg [.str s, .int .i64 (a : Int), .nilp]
theorem shl_or (x : Nat) (c : UInt8) (hx : x ≤ 4294967296) : bitsOf .or .i64 (((x * 256 : Nat)) : Int) (c.toNat : Int) = ((x * 256 + c.toNat : Nat) : Int) := by
  have hc := c.toNat_lt
  rw [bits_or_nat (by simp [IntKind.max, IntKind.signed, IntKind.bits]; omega) (by simp [IntKind.max, IntKind.signed, IntKind.bits]; omega)]
  congr 1
  rw [show x * 256 = x <<< 8 by rw [Nat.shiftLeft_eq], ← Nat.shiftLeft_add_eq_or_of_lt hc]
section
variable {S : Sys} (hS : Has S) (n : Nat)
include hS
theorem ev_nText (s : List UInt8) (a m : Nat) (h : a + m ≤ s.length) (hs : s.length ≤ 140737488351232) :
    S.ev (n + 1) id_num_Reader_Text [.ptr 0 0 [] 0, .int .i64 (m : Int)] (some (nrLV s a)) = some (.tup [.str ((s.drop a).take m), .nili], some (nrLV s (a + m))) := by
  rw [Sys.step hS.h_num_Reader_Text, F_num_Reader_Text_eq]
  unfold F_num_Reader_Text
  (try simp only [guard_merge, or_merge, and_merge, or_pick, and_pick, guard_or, guard_and]); simp only [to_ob]
  have f1 : ¬ (m : Int) < 0 := by omega
  have e1 : IntKind.i64.wrap ((s.length : Int) - (a : Int)) = ((s.length - a : Nat) : Int) := by rw [wrap_id (by omega) (by omega)]; omega
  have f2 : ¬ ((s.length - a : Nat) : Int) < (m : Int) := by omega
  have e2 : IntKind.i64.wrap ((a : Int) + (m : Int)) = ((a + m : Nat) : Int) := by rw [wrap_id (by omega) (by omega)]; omega
  have f3 : a ≤ a + m := by omega
  have f4 : a + m - a = m := by omega
  simp only [go_sem, ↓reduceIte, reduceCtorEq, upd_ne, back_new (no_at), Nat.reduceAdd, Nat.reduceEqDiff, Nat.reduceMul, Nat.reduceSub, Nat.reduceLeDiff, Nat.reduceLT, Int.reduceToNat, Int.reduceLE, Int.reduceLT, Int.reduceEq, UInt8.reduceOfNat, f1, e1, f2, e2, f3, f4, h]
theorem ev_nNumber (s : List UInt8) (a m : Nat) (h : a + m ≤ s.length) (hm : m ≤ 4) (hs : s.length ≤ 140737488351232) :
    S.ev (n + 2) id_num_Reader_number [.ptr 0 0 [] 0, .int .i64 (m : Int)] (some (nrLV s a)) = some (.tup [.int .i64 ((numN ((s.drop a).take m) : Nat) : Int), .nili], some (nrLV s (a + m))) := by
  rw [Sys.step hS.h_num_Reader_number, F_num_Reader_number_eq]
  unfold F_num_Reader_number
  have ht := ev_nText hS n s a m h hs
  (try simp only [guard_merge, or_merge, and_merge, or_pick, and_pick, guard_or, guard_and]); simp only [to_ob]
  simp only [go_sem, ↓reduceIte, reduceCtorEq, upd_ne, back_new (no_at), Nat.reduceAdd, Nat.reduceEqDiff, Nat.reduceMul, Nat.reduceSub, Nat.reduceLeDiff, Nat.reduceLT, Int.reduceToNat, Int.reduceLE, Int.reduceLT, Int.reduceEq, UInt8.reduceOfNat, ht]
  have hul : ((s.drop a).take m).length = m := by rw [List.length_take, List.length_drop]; omega
  generalize (s.drop a).take m = u at *
  refine while_rule (fun k q => ∃ i : Nat, i + k = m ∧ q = ([.int .i64 ((numN (u.take i) : Nat) : Int), .int .i64 (i : Int)], upd noSlots 0 (.obj 0 (nrLV s (a + m))))) m ⟨0, by omega, by simp [numN]⟩ ?_
  rintro k q ⟨i, hi, rfl⟩
  simp only [go_sem, ↓reduceIte, reduceCtorEq, upd_ne, back_new (no_at), Nat.reduceAdd, Nat.reduceEqDiff, Nat.reduceMul, Nat.reduceSub, Nat.reduceLeDiff, Nat.reduceLT, Int.reduceToNat, Int.reduceLE, Int.reduceLT, Int.reduceEq, UInt8.reduceOfNat, hul]
  refine nxt_ite (fun h => ?_) (fun h => ?_)
  · have hlt : i < u.length := by omega
    obtain ⟨c, hc⟩ : ∃ c, u[i]? = some c := ⟨u[i], by simp [hlt]⟩
    have htk : u.take (i + 1) = u.take i ++ [c] := by rw [List.take_add_one, hc]; rfl
    have hb := numN_lt (u.take i)
    have hb2 : 256 ^ (u.take i).length ≤ 256 ^ 3 := Nat.pow_le_pow_right (by decide) (by rw [List.length_take]; omega)
    have hb3 : (256 : Nat) ^ 3 = 16777216 := by decide
    have hcl := c.toNat_lt
    have e1 : IntKind.i64.wrap (((numN (u.take i) : Nat) : Int) * 2 ^ min 8 64) = ((numN (u.take i) * 256 : Nat) : Int) := by rw [show min 8 64 = 8 from rfl, wrap_id (by omega) (by omega)]; omega
    have e2 : IntKind.i64.wrap (c.toNat : Int) = (c.toNat : Int) := wrap_id (by omega) (by omega)
    have e3 := shl_or (numN (u.take i)) c (by omega)
    have e4 : IntKind.i64.wrap ((i : Int) + 1) = ((i + 1 : Nat) : Int) := by rw [wrap_id (by omega) (by omega)]; omega
    simp only [go_sem, ↓reduceIte, reduceCtorEq, upd_ne, back_new (no_at), Nat.reduceAdd, Nat.reduceEqDiff, Nat.reduceMul, Nat.reduceSub, Nat.reduceLeDiff, Nat.reduceLT, Int.reduceToNat, Int.reduceLE, Int.reduceLT, Int.reduceEq, UInt8.reduceOfNat, List.getElem?_map, Int.toNat_natCast, hc, e1, e2, e3, e4]
    exact ⟨k - 1, by omega, i + 1, by omega, by rw [htk, numN_snoc]⟩
  · obtain rfl : i = m := by omega
    rw [List.take_of_length_le (by omega)]
    simp only [go_sem, ↓reduceIte, reduceCtorEq, upd_ne, back_new (no_at), Nat.reduceAdd, Nat.reduceEqDiff, Nat.reduceMul, Nat.reduceSub, Nat.reduceLeDiff, Nat.reduceLT, Int.reduceToNat, Int.reduceLE, Int.reduceLT, Int.reduceEq, UInt8.reduceOfNat, Nxt, exIf]
theorem ev_U32 (s : List UInt8) (a : Nat) (h : a + 4 ≤ s.length) (hs : s.length ≤ 140737488351232) :
    S.ev (n + 3) id_num_Reader_U32 [.ptr 0 0 [] 0] (some (nrLV s a)) = some (.tup [.int .i64 ((numN ((s.drop a).take 4) : Nat) : Int), .nili], some (nrLV s (a + 4))) := by
  rw [Sys.step hS.h_num_Reader_U32, F_num_Reader_U32_eq]
  unfold F_num_Reader_U32
  have ht : S.ev (n + 2) id_num_Reader_number [.ptr 0 0 [] 0, .int .i64 4] (some (nrLV s a)) = some (.tup [.int .i64 ((numN ((s.drop a).take 4) : Nat) : Int), .nili], some (nrLV s (a + 4))) := ev_nNumber hS n s a 4 h (by omega) hs
  (try simp only [guard_merge, or_merge, and_merge, or_pick, and_pick, guard_or, guard_and]); simp only [to_ob]
  simp only [go_sem, ↓reduceIte, reduceCtorEq, upd_ne, back_new (no_at), Nat.reduceAdd, Nat.reduceEqDiff, Nat.reduceMul, Nat.reduceSub, Nat.reduceLeDiff, Nat.reduceLT, Int.reduceToNat, Int.reduceLE, Int.reduceLT, Int.reduceEq, UInt8.reduceOfNat, ht]
theorem ev_New (s : List UInt8) : S.ev (n + 1) id_num_New [.str s] none = some (.fresh (nrLV s 0), none) := by
  rw [Sys.step hS.h_num_New, F_num_New_eq]
  unfold F_num_New
  (try simp only [guard_merge, or_merge, and_merge, or_pick, and_pick, guard_or, guard_and]); simp only [to_ob]
  simp only [go_sem, ↓reduceIte, reduceCtorEq, upd_ne, back_new (no_at), Nat.reduceAdd, Nat.reduceEqDiff, Nat.reduceMul, Nat.reduceSub, Nat.reduceLeDiff, Nat.reduceLT, Int.reduceToNat, Int.reduceLE, Int.reduceLT, Int.reduceEq, UInt8.reduceOfNat, Int.natCast_zero]
  try rfl
end
end Go.Ev

/- Layer 2: sums. -/
namespace Go.Ev
set_option linter.unusedSimpArgs false
set_option linter.unusedVariables false
set_option maxRecDepth 4000
set_option maxHeartbeats 2000000
section
variable {S : Sys} (hS : Has S) (n : Nat)
include hS
theorem ev_fold (m : Nat) (hm : m ≤ 9223372036854775807) : S.ev (n + 1) id_sum_fold [.int .i64 (m : Int)] none = some (.int .i64 (ones m : Nat), none) := by
  rw [Sys.step hS.h_sum_fold, F_sum_fold_eq]
  unfold F_sum_fold
  (try simp only [guard_merge, or_merge, and_merge, or_pick, and_pick, guard_or, guard_and]); simp only [to_ob]
  refine while_rule (fun k q => ∃ x : Nat, q = ([.int .i64 (x : Int)], noSlots) ∧ k = x ∧ ones x = ones m ∧ x ≤ 9223372036854775807) m ⟨m, rfl, rfl, rfl, hm⟩ ?_
  rintro k q ⟨x, rfl, rfl, hx, hb⟩
  simp only [go_sem, ↓reduceIte, reduceCtorEq, upd_ne, back_new (no_at), Nat.reduceAdd, Nat.reduceEqDiff, Nat.reduceMul, Nat.reduceSub, Nat.reduceLeDiff, Nat.reduceLT, Int.reduceToNat, Int.reduceLE, Int.reduceLT, Int.reduceEq, UInt8.reduceOfNat]
  refine nxt_ite (fun h => ?_) (fun h => ?_)
  · have e1 : bitsOf .and .i64 (k : Int) 65535 = ((k % 65536 : Nat) : Int) := by
      rw [show (65535 : Int) = ((2 ^ 16 - 1 : Nat) : Int) from rfl, bits_mask 16 (by omega) (by simp [IntKind.max, IntKind.signed, IntKind.bits]; omega) (by decide)]
      rfl
    have e2 : Int.fdiv (k : Int) (2 ^ min 16 64) = ((k / 65536 : Nat) : Int) := by
      rw [show min 16 64 = 16 from rfl, Int.fdiv_eq_ediv_of_nonneg _ (by decide)]
      rfl
    have e3 : IntKind.i64.wrap (((k / 65536 : Nat) : Int) + ((k % 65536 : Nat) : Int)) = ((k / 65536 + k % 65536 : Nat) : Int) := by
      rw [wrap_id (by omega) (by omega)]; omega
    have hk : 65535 < k := by omega
    simp only [go_sem, ↓reduceIte, reduceCtorEq, upd_ne, back_new (no_at), Nat.reduceAdd, Nat.reduceEqDiff, Nat.reduceMul, Nat.reduceSub, Nat.reduceLeDiff, Nat.reduceLT, Int.reduceToNat, Int.reduceLE, Int.reduceLT, Int.reduceEq, UInt8.reduceOfNat, e1, e2, e3]
    exact ⟨_, by omega, _, rfl, rfl, by rw [ones_step hk, hx], by omega⟩
  · have hk : k ≤ 65535 := by omega
    simp only [go_sem, ↓reduceIte, reduceCtorEq, upd_ne, back_new (no_at), Nat.reduceAdd, Nat.reduceEqDiff, Nat.reduceMul, Nat.reduceSub, Nat.reduceLeDiff, Nat.reduceLT, Int.reduceToNat, Int.reduceLE, Int.reduceLT, Int.reduceEq, UInt8.reduceOfNat, Nxt, exIf]
    rw [← hx, ones_small hk]
theorem ev_add (m p : Nat) (s : List UInt8) (hb : m + 65280 * s.length ≤ 9223372036854775807) (hp : p + s.length ≤ 9223372036854775806) :
    S.ev (n + 1) id_sum_add [.int .i64 (m : Int), .int .i64 (p : Int), .str s, .int .u8 0] none = some (.int .i64 (m + sumAt p s : Nat), none) := by
  rw [Sys.step hS.h_sum_add, F_sum_add_eq]
  unfold F_sum_add
  (try simp only [guard_merge, or_merge, and_merge, or_pick, and_pick, guard_or, guard_and]); simp only [to_ob]
  simp only [go_sem, ↓reduceIte, reduceCtorEq, upd_ne, back_new (no_at), Nat.reduceAdd, Nat.reduceEqDiff, Nat.reduceMul, Nat.reduceSub, Nat.reduceLeDiff, Nat.reduceLT, Int.reduceToNat, Int.reduceLE, Int.reduceLT, Int.reduceEq, UInt8.reduceOfNat]
  refine while_rule (fun k q => ∃ x i : Nat, q = ([.int .i64 (x : Int), .int .i64 (i : Int)], noSlots) ∧ i + k = s.length ∧ x + sumAt (p + i) (s.drop i) = m + sumAt p s) s.length ⟨m, 0, rfl, by simp, by simp⟩ ?_
  rintro k q ⟨x, i, rfl, hi, hx⟩
  have hle := sumAt_le s p
  simp only [go_sem, ↓reduceIte, reduceCtorEq, upd_ne, back_new (no_at), Nat.reduceAdd, Nat.reduceEqDiff, Nat.reduceMul, Nat.reduceSub, Nat.reduceLeDiff, Nat.reduceLT, Int.reduceToNat, Int.reduceLE, Int.reduceLT, Int.reduceEq, UInt8.reduceOfNat]
  refine nxt_ite (fun h => ?_) (fun h => ?_)
  · have hlt : i < s.length := by omega
    obtain ⟨c, hc⟩ : ∃ c, s[i]? = some c := ⟨s[i], by simp [hlt]⟩
    have hd : s.drop i = c :: s.drop (i + 1) := by
      rw [List.drop_eq_getElem_cons hlt]; congr 1; simpa [hlt] using hc
    have hcl := c.toNat_lt
    rw [hd] at hx
    simp only [sumAt] at hx
    have e0 : bitsOf .xor .u8 (c.toNat : Int) 0 = (c.toNat : Int) := by
      rw [show (0 : Int) = ((0 : Nat) : Int) from rfl, bits_xor_nat (by simp [IntKind.max, IntKind.signed, IntKind.bits]; omega) (by simp [IntKind.max, IntKind.signed, IntKind.bits])]
      simp
    have e1 : IntKind.i64.wrap (c.toNat : Int) = (c.toNat : Int) := wrap_id (by omega) (by omega)
    have e2 : IntKind.i64.wrap ((p : Int) + (i : Int)) = ((p + i : Nat) : Int) := by rw [wrap_id (by omega) (by omega)]; omega
    have e3 : Int.tmod ((p + i : Nat) : Int) 2 = (((p + i) % 2 : Nat) : Int) := by
      rw [Int.tmod_eq_emod_of_nonneg (by omega)]; omega
    have e4 : IntKind.i64.wrap ((c.toNat : Int) * 2 ^ min 8 64) = ((c.toNat * 256 : Nat) : Int) := by
      rw [show min 8 64 = 8 from rfl, wrap_id (by omega) (by omega)]; omega
    have e6 : IntKind.i64.wrap ((i : Int) + 1) = ((i + 1 : Nat) : Int) := by rw [wrap_id (by omega) (by omega)]; omega
    simp only [go_sem, ↓reduceIte, reduceCtorEq, upd_ne, back_new (no_at), Nat.reduceAdd, Nat.reduceEqDiff, Nat.reduceMul, Nat.reduceSub, Nat.reduceLeDiff, Nat.reduceLT, Int.reduceToNat, Int.reduceLE, Int.reduceLT, Int.reduceEq, UInt8.reduceOfNat, List.getElem?_map, Int.toNat_natCast, hc, e0, e1, e2, e3, e4, e6]
    by_cases hpar : (p + i) % 2 = 0
    · rw [if_pos hpar] at hx
      have e5 : IntKind.i64.wrap ((x : Int) + ((c.toNat * 256 : Nat) : Int)) = ((x + c.toNat * 256 : Nat) : Int) := by
        rw [wrap_id (by omega) (by omega)]; omega
      have hq : (((p + i) % 2 : Nat) : Int) = 0 := by omega
      simp only [go_sem, ↓reduceIte, reduceCtorEq, upd_ne, back_new (no_at), Nat.reduceAdd, Nat.reduceEqDiff, Nat.reduceMul, Nat.reduceSub, Nat.reduceLeDiff, Nat.reduceLT, Int.reduceToNat, Int.reduceLE, Int.reduceLT, Int.reduceEq, UInt8.reduceOfNat, hq, e5]
      exact ⟨k - 1, by omega, _, i + 1, rfl, by omega, by rw [show p + (i + 1) = p + i + 1 by omega]; omega⟩
    · rw [if_neg hpar] at hx
      have e5 : IntKind.i64.wrap ((x : Int) + (c.toNat : Int)) = ((x + c.toNat : Nat) : Int) := by
        rw [wrap_id (by omega) (by omega)]; omega
      have hq : ¬ (((p + i) % 2 : Nat) : Int) = 0 := by omega
      simp only [go_sem, ↓reduceIte, reduceCtorEq, upd_ne, back_new (no_at), Nat.reduceAdd, Nat.reduceEqDiff, Nat.reduceMul, Nat.reduceSub, Nat.reduceLeDiff, Nat.reduceLT, Int.reduceToNat, Int.reduceLE, Int.reduceLT, Int.reduceEq, UInt8.reduceOfNat, hq, e5]
      exact ⟨k - 1, by omega, _, i + 1, rfl, by omega, by rw [show p + (i + 1) = p + i + 1 by omega]; omega⟩
  · rw [List.drop_eq_nil_of_le (by omega)] at hx
    simp only [sumAt, Nat.add_zero] at hx
    simp only [go_sem, ↓reduceIte, reduceCtorEq, upd_ne, back_new (no_at), Nat.reduceAdd, Nat.reduceEqDiff, Nat.reduceMul, Nat.reduceSub, Nat.reduceLeDiff, Nat.reduceLT, Int.reduceToNat, Int.reduceLE, Int.reduceLT, Int.reduceEq, UInt8.reduceOfNat, Nxt, exIf, hx]
theorem ev_Of (ps : List (List UInt8)) (hl : ps.length ≤ 1000) (ht : ps.flatten.length ≤ 140737488351232) : S.ev (n + 2) id_sum_Of [.lst none (ps.map .str)] none = some (.int .i64 (65535 - (ones (sumAt 0 ps.flatten) : Nat)), none) := by
  rw [Sys.step hS.h_sum_Of, F_sum_Of_eq]
  unfold F_sum_Of
  (try simp only [guard_merge, or_merge, and_merge, or_pick, and_pick, guard_or, guard_and]); simp only [to_ob]
  simp only [go_sem, ↓reduceIte, reduceCtorEq, upd_ne, back_new (no_at), Nat.reduceAdd, Nat.reduceEqDiff, Nat.reduceMul, Nat.reduceSub, Nat.reduceLeDiff, Nat.reduceLT, Int.reduceToNat, Int.reduceLE, Int.reduceLT, Int.reduceEq, UInt8.reduceOfNat, List.length_map]
  refine while_rule (fun k q => ∃ i : Nat, q = ([.int .i64 (ones (sumAt 0 (ps.take i).flatten) : Nat), .int .i64 ((ps.take i).flatten.length : Nat), .int .i64 (i : Int)], noSlots) ∧ i + k = ps.length) ps.length ⟨0, by simp [ones, sumAt], by simp⟩ ?_
  rintro k q ⟨i, rfl, hi⟩
  simp only [go_sem, ↓reduceIte, reduceCtorEq, upd_ne, back_new (no_at), Nat.reduceAdd, Nat.reduceEqDiff, Nat.reduceMul, Nat.reduceSub, Nat.reduceLeDiff, Nat.reduceLT, Int.reduceToNat, Int.reduceLE, Int.reduceLT, Int.reduceEq, UInt8.reduceOfNat]
  refine nxt_ite (fun h => ?_) (fun h => ?_)
  · have hlt : i < ps.length := by omega
    obtain ⟨s, hs⟩ : ∃ s, ps[i]? = some s := ⟨ps[i], by simp [hlt]⟩
    have htk : ps.take (i + 1) = ps.take i ++ [s] := by
      rw [List.take_add_one, hs]; rfl
    have hfl : (ps.take (i + 1)).flatten = (ps.take i).flatten ++ s := by rw [htk]; simp
    have hle : ((ps.take i).flatten ++ s).length ≤ 140737488351232 := by
      rw [← hfl]
      refine Nat.le_trans ?_ ht
      conv => rhs; rw [← List.take_append_drop (i + 1) ps, List.flatten_append]
      simp
    rw [List.length_append] at hle
    generalize (ps.take i).flatten = u at *
    have ho := ones_le (sumAt 0 u)
    have hsl := sumAt_le s u.length
    have h1 := ev_add hS n (ones (sumAt 0 u)) u.length s (by omega) (by omega)
    have h2 := ev_fold hS n (ones (sumAt 0 u) + sumAt u.length s) (by omega)
    have e1 : IntKind.i64.wrap ((u.length : Int) + (s.length : Int)) = ((u ++ s).length : Nat) := by
      rw [wrap_id (by omega) (by omega), List.length_append]; omega
    have e2 : IntKind.i64.wrap ((i : Int) + 1) = ((i + 1 : Nat) : Int) := by rw [wrap_id (by omega) (by omega)]; omega
    rw [ones_add, show sumAt 0 u + sumAt u.length s = sumAt 0 (u ++ s) by rw [sumAt_append]; simp] at h2
    simp only [go_sem, ↓reduceIte, reduceCtorEq, upd_ne, back_new (no_at), Nat.reduceAdd, Nat.reduceEqDiff, Nat.reduceMul, Nat.reduceSub, Nat.reduceLeDiff, Nat.reduceLT, Int.reduceToNat, Int.reduceLE, Int.reduceLT, Int.reduceEq, UInt8.reduceOfNat, List.getElem?_map, Int.toNat_natCast, hs, h1, h2, e1, e2]
    exact ⟨k - 1, by omega, i + 1, by rw [hfl], by omega⟩
  · rw [List.take_of_length_le (by omega)]
    have ho := ones_le (sumAt 0 ps.flatten)
    have e1 : IntKind.i64.wrap (65535 - ((ones (sumAt 0 ps.flatten) : Nat) : Int)) = 65535 - ((ones (sumAt 0 ps.flatten) : Nat) : Int) := wrap_id (by omega) (by omega)
    simp only [go_sem, ↓reduceIte, reduceCtorEq, upd_ne, back_new (no_at), Nat.reduceAdd, Nat.reduceEqDiff, Nat.reduceMul, Nat.reduceSub, Nat.reduceLeDiff, Nat.reduceLT, Int.reduceToNat, Int.reduceLE, Int.reduceLT, Int.reduceEq, UInt8.reduceOfNat, Nxt, exIf, e1]
end
end Go.Ev

/- Layer 3: why a packet may not be. -/
namespace Go.Ev
set_option linter.unusedSimpArgs false
set_option linter.unusedVariables false
set_option maxRecDepth 4000
set_option maxHeartbeats 2000000

abbrev okB (n : Int) : Prop := 0 ≤ n ∧ n ≤ 255
def why4 (tos id ttl pt at' : Int) (mo : Bool) (op da : List UInt8) : Int :=
  if okB tos ∧ okB ttl ∧ okB pt ∧ (0 ≤ id ∧ id ≤ 65535) ∧ (0 ≤ at' ∧ at' ≤ 65528) ∧ Int.tmod at' 8 = 0 then
    (if op.length ≤ 40 ∧ op.length % 4 = 0 ∧ (mo = true → da.length ≠ 0 ∧ da.length % 8 = 0) then
      (if 20 + (op.length : Int) + at' + da.length ≤ 65535 then 0 else 3) else 8) else 13

section
variable {S : Sys} (hS : Has S) (n : Nat)
include hS
theorem ev_byteful (l : List Int) (hl : l.length ≤ 1000) : S.ev (n + 1) id_ip4_byteful [.lst none (l.map (LV.int .i64))] none = some (.bool (decide (∀ x ∈ l, okB x)), none) := by
  rw [Sys.step hS.h_ip4_byteful, F_ip4_byteful_eq]
  unfold F_ip4_byteful
  (try simp only [guard_merge, or_merge, and_merge, or_pick, and_pick, guard_or, guard_and]); simp only [to_ob]
  simp only [go_sem, ↓reduceIte, reduceCtorEq, upd_ne, back_new (no_at), Nat.reduceAdd, Nat.reduceEqDiff, Nat.reduceMul, Nat.reduceSub, Nat.reduceLeDiff, Nat.reduceLT, Int.reduceToNat, Int.reduceLE, Int.reduceLT, Int.reduceEq, UInt8.reduceOfNat, List.length_map]
  refine while_rule (fun k q => ∃ i : Nat, q = ([.bool false, .int .i64 (i : Int)], noSlots) ∧ i + k = l.length ∧ ∀ x ∈ l.take i, okB x) l.length ⟨0, rfl, by simp, by simp⟩ ?_
  rintro k q ⟨i, rfl, hi, hx⟩
  simp only [go_sem, ↓reduceIte, reduceCtorEq, upd_ne, back_new (no_at), Nat.reduceAdd, Nat.reduceEqDiff, Nat.reduceMul, Nat.reduceSub, Nat.reduceLeDiff, Nat.reduceLT, Int.reduceToNat, Int.reduceLE, Int.reduceLT, Int.reduceEq, UInt8.reduceOfNat]
  refine nxt_ite (fun h => ?_) (fun h => ?_)
  · have hlt : i < l.length := by omega
    obtain ⟨c, hc⟩ : ∃ c, l[i]? = some c := ⟨l[i], by simp [hlt]⟩
    have htk : l.take (i + 1) = l.take i ++ [c] := by rw [List.take_add_one, hc]; rfl
    have hcm : c ∈ l := List.mem_of_getElem? hc
    have e6 : IntKind.i64.wrap ((i : Int) + 1) = ((i + 1 : Nat) : Int) := by rw [wrap_id (by omega) (by omega)]; omega
    have hg : (l.map (LV.int IntKind.i64))[i]? = some (.int .i64 c) := by simp [hc]
    by_cases hb : c < 0 ∨ 255 < c
    · have hn : ¬ ∀ x ∈ l, okB x := fun h => by have := h c hcm; unfold okB at this; omega
      simp only [go_sem, ↓reduceIte, reduceCtorEq, upd_ne, back_new (no_at), Nat.reduceAdd, Nat.reduceEqDiff, Nat.reduceMul, Nat.reduceSub, Nat.reduceLeDiff, Nat.reduceLT, Int.reduceToNat, Int.reduceLE, Int.reduceLT, Int.reduceEq, UInt8.reduceOfNat, List.getElem?_map, Int.toNat_natCast, hg, hc, hlt, hb, Nxt, exIf, hn]
    · simp only [go_sem, ↓reduceIte, reduceCtorEq, upd_ne, back_new (no_at), Nat.reduceAdd, Nat.reduceEqDiff, Nat.reduceMul, Nat.reduceSub, Nat.reduceLeDiff, Nat.reduceLT, Int.reduceToNat, Int.reduceLE, Int.reduceLT, Int.reduceEq, UInt8.reduceOfNat, List.getElem?_map, Int.toNat_natCast, hg, hc, hlt, hb, e6]
      refine ⟨k - 1, by omega, i + 1, rfl, by omega, ?_⟩
      rw [htk]
      intro x hx'
      rcases List.mem_append.1 hx' with h' | h'
      · exact hx x h'
      · simp at h'; subst h'; unfold okB; omega
  · rw [List.take_of_length_le (by omega)] at hx
    simp only [go_sem, ↓reduceIte, reduceCtorEq, upd_ne, back_new (no_at), Nat.reduceAdd, Nat.reduceEqDiff, Nat.reduceMul, Nat.reduceSub, Nat.reduceLeDiff, Nat.reduceLT, Int.reduceToNat, Int.reduceLE, Int.reduceLT, Int.reduceEq, UInt8.reduceOfNat, Nxt, exIf, hx]
    simp only [decide_eq_true hx]

theorem ev_why4 {tos id ttl pt at' : Int} {df mo : Bool} {fr to op da : List UInt8} (hfr : fr.length = 4) (hto : to.length = 4) (hop : op.length ≤ 140737488351232) (hda : da.length ≤ 140737488351232) :
    S.ev (n + 2) id_ip4_why [ip4LV tos id ttl pt at' df mo fr to op da] none = some (.int .i64 (why4 tos id ttl pt at' mo op da), none) := by
  rw [Sys.step hS.h_ip4_why, F_ip4_why_eq]
  unfold F_ip4_why
  have hb := ev_byteful hS n [tos, ttl, pt] (by simp)
  simp only [List.map_cons, List.map_nil] at hb
  (try simp only [guard_merge, or_merge, and_merge, or_pick, and_pick, guard_or, guard_and]); simp only [to_ob]
  unfold why4
  have e1 : Int.tmod (op.length : Int) 4 = ((op.length % 4 : Nat) : Int) := rfl
  have e2 : Int.tmod (da.length : Int) 8 = ((da.length % 8 : Nat) : Int) := rfl
  by_cases cB : okB tos ∧ okB ttl ∧ okB pt
  · have hall : ∀ x ∈ [tos, ttl, pt], okB x := by simp only [List.forall_mem_cons]; exact ⟨cB.1, cB.2.1, cB.2.2, by simp⟩
    rw [decide_eq_true hall] at hb
    by_cases c1 : (0 ≤ id ∧ id ≤ 65535) ∧ (0 ≤ at' ∧ at' ≤ 65528) ∧ Int.tmod at' 8 = 0
    · obtain ⟨⟨c14, c15⟩, ⟨c16, c17⟩, c18⟩ := c1
      obtain ⟨c11, c12, c13⟩ := cB
      rw [if_pos ⟨c11, c12, c13, ⟨c14, c15⟩, ⟨c16, c17⟩, c18⟩]
      have d1 : ¬ id < 0 := by omega
      have d2 : ¬ 65535 < id := by omega
      have d3 : ¬ at' < 0 := by omega
      have d4 : ¬ 65528 < at' := by omega
      by_cases k1 : op.length ≤ 40
      · have k1' : ¬ 40 < (op.length : Int) := by omega
        have k5 : IntKind.i64.wrap (IntKind.i64.wrap (65515 - (op.length : Int)) - at') = 65515 - (op.length : Int) - at' := by
          rw [wrap_id (n := 65515 - (op.length : Int)) (by omega) (by omega), wrap_id (by omega) (by omega)]
        by_cases k2 : op.length % 4 = 0
        · have k2' : ((op.length % 4 : Nat) : Int) = 0 := by omega
          by_cases k6 : 20 + (op.length : Int) + at' + da.length ≤ 65535
          · have k6' : ¬ 65515 - (op.length : Int) - at' < (da.length : Int) := by omega
            cases mo
            · simp only [go_sem, ↓reduceIte, reduceCtorEq, upd_ne, back_new (no_at), Nat.reduceAdd, Nat.reduceEqDiff, Nat.reduceMul, Nat.reduceSub, Nat.reduceLeDiff, Nat.reduceLT, Int.reduceToNat, Int.reduceLE, Int.reduceLT, Int.reduceEq, UInt8.reduceOfNat, hb, hfr, hto, d1, d2, d3, d4, c11, c12, c13, c14, c15, c16, c17, c18, e1, e2, k1, k1', k2, k2', k5, k6, k6', false_implies]
            · by_cases k3 : da = []
              · subst k3
                simp only [go_sem, ↓reduceIte, reduceCtorEq, upd_ne, back_new (no_at), Nat.reduceAdd, Nat.reduceEqDiff, Nat.reduceMul, Nat.reduceSub, Nat.reduceLeDiff, Nat.reduceLT, Int.reduceToNat, Int.reduceLE, Int.reduceLT, Int.reduceEq, UInt8.reduceOfNat, hb, hfr, hto, d1, d2, d3, d4, c11, c12, c13, c14, c15, c16, c17, c18, e1, e2, k1, k1', k2, k2', true_implies]
              · have k3' : ¬ da.length = 0 := fun h => k3 (List.length_eq_zero_iff.1 h)
                by_cases k4 : da.length % 8 = 0
                · have k4' : ((da.length % 8 : Nat) : Int) = 0 := by omega
                  simp only [go_sem, ↓reduceIte, reduceCtorEq, upd_ne, back_new (no_at), Nat.reduceAdd, Nat.reduceEqDiff, Nat.reduceMul, Nat.reduceSub, Nat.reduceLeDiff, Nat.reduceLT, Int.reduceToNat, Int.reduceLE, Int.reduceLT, Int.reduceEq, UInt8.reduceOfNat, hb, hfr, hto, d1, d2, d3, d4, c11, c12, c13, c14, c15, c16, c17, c18, e1, e2, k1, k1', k2, k2', k3, k3', k4, k4', k5, k6, k6', true_implies]
                · have k4' : ¬ ((da.length % 8 : Nat) : Int) = 0 := by omega
                  simp only [go_sem, ↓reduceIte, reduceCtorEq, upd_ne, back_new (no_at), Nat.reduceAdd, Nat.reduceEqDiff, Nat.reduceMul, Nat.reduceSub, Nat.reduceLeDiff, Nat.reduceLT, Int.reduceToNat, Int.reduceLE, Int.reduceLT, Int.reduceEq, UInt8.reduceOfNat, hb, hfr, hto, d1, d2, d3, d4, c11, c12, c13, c14, c15, c16, c17, c18, e1, e2, k1, k1', k2, k2', k3, k3', k4, k4', true_implies]
          · have k6' : 65515 - (op.length : Int) - at' < (da.length : Int) := by omega
            cases mo
            · simp only [go_sem, ↓reduceIte, reduceCtorEq, upd_ne, back_new (no_at), Nat.reduceAdd, Nat.reduceEqDiff, Nat.reduceMul, Nat.reduceSub, Nat.reduceLeDiff, Nat.reduceLT, Int.reduceToNat, Int.reduceLE, Int.reduceLT, Int.reduceEq, UInt8.reduceOfNat, hb, hfr, hto, d1, d2, d3, d4, c11, c12, c13, c14, c15, c16, c17, c18, e1, e2, k1, k1', k2, k2', k5, k6, k6', false_implies]
            · by_cases k3 : da = []
              · subst k3
                simp only [go_sem, ↓reduceIte, reduceCtorEq, upd_ne, back_new (no_at), Nat.reduceAdd, Nat.reduceEqDiff, Nat.reduceMul, Nat.reduceSub, Nat.reduceLeDiff, Nat.reduceLT, Int.reduceToNat, Int.reduceLE, Int.reduceLT, Int.reduceEq, UInt8.reduceOfNat, hb, hfr, hto, d1, d2, d3, d4, c11, c12, c13, c14, c15, c16, c17, c18, e1, e2, k1, k1', k2, k2', true_implies]
              · have k3' : ¬ da.length = 0 := fun h => k3 (List.length_eq_zero_iff.1 h)
                by_cases k4 : da.length % 8 = 0
                · have k4' : ((da.length % 8 : Nat) : Int) = 0 := by omega
                  simp only [go_sem, ↓reduceIte, reduceCtorEq, upd_ne, back_new (no_at), Nat.reduceAdd, Nat.reduceEqDiff, Nat.reduceMul, Nat.reduceSub, Nat.reduceLeDiff, Nat.reduceLT, Int.reduceToNat, Int.reduceLE, Int.reduceLT, Int.reduceEq, UInt8.reduceOfNat, hb, hfr, hto, d1, d2, d3, d4, c11, c12, c13, c14, c15, c16, c17, c18, e1, e2, k1, k1', k2, k2', k3, k3', k4, k4', k5, k6, k6', true_implies]
                · have k4' : ¬ ((da.length % 8 : Nat) : Int) = 0 := by omega
                  simp only [go_sem, ↓reduceIte, reduceCtorEq, upd_ne, back_new (no_at), Nat.reduceAdd, Nat.reduceEqDiff, Nat.reduceMul, Nat.reduceSub, Nat.reduceLeDiff, Nat.reduceLT, Int.reduceToNat, Int.reduceLE, Int.reduceLT, Int.reduceEq, UInt8.reduceOfNat, hb, hfr, hto, d1, d2, d3, d4, c11, c12, c13, c14, c15, c16, c17, c18, e1, e2, k1, k1', k2, k2', k3, k3', k4, k4', true_implies]
        · have k2' : ¬ ((op.length % 4 : Nat) : Int) = 0 := by omega
          simp only [go_sem, ↓reduceIte, reduceCtorEq, upd_ne, back_new (no_at), Nat.reduceAdd, Nat.reduceEqDiff, Nat.reduceMul, Nat.reduceSub, Nat.reduceLeDiff, Nat.reduceLT, Int.reduceToNat, Int.reduceLE, Int.reduceLT, Int.reduceEq, UInt8.reduceOfNat, hb, hfr, hto, d1, d2, d3, d4, c11, c12, c13, c14, c15, c16, c17, c18, e1, e2, k1, k1', k2, k2']
      · have k1' : 40 < (op.length : Int) := by omega
        simp only [go_sem, ↓reduceIte, reduceCtorEq, upd_ne, back_new (no_at), Nat.reduceAdd, Nat.reduceEqDiff, Nat.reduceMul, Nat.reduceSub, Nat.reduceLeDiff, Nat.reduceLT, Int.reduceToNat, Int.reduceLE, Int.reduceLT, Int.reduceEq, UInt8.reduceOfNat, hb, hfr, hto, d1, d2, d3, d4, c11, c12, c13, c14, c15, c16, c17, c18, e1, e2, k1, k1']
    · have c1' : (((id < 0 ∨ 65535 < id) ∨ at' < 0) ∨ 65528 < at') ∨ ¬ Int.tmod at' 8 = 0 := by
        by_cases h8 : Int.tmod at' 8 = 0
        · left; simp only [h8, and_true] at c1; omega
        · right; exact h8
      have c2 : ¬ (okB tos ∧ okB ttl ∧ okB pt ∧ (0 ≤ id ∧ id ≤ 65535) ∧ (0 ≤ at' ∧ at' ≤ 65528) ∧ Int.tmod at' 8 = 0) := fun h => c1 h.2.2.2
      rw [if_neg c2]
      simp only [go_sem, ↓reduceIte, reduceCtorEq, upd_ne, back_new (no_at), Nat.reduceAdd, Nat.reduceEqDiff, Nat.reduceMul, Nat.reduceSub, Nat.reduceLeDiff, Nat.reduceLT, Int.reduceToNat, Int.reduceLE, Int.reduceLT, Int.reduceEq, UInt8.reduceOfNat, hb, hfr, hto, c1']
  · have hall : ¬ ∀ x ∈ [tos, ttl, pt], okB x := fun h => cB ⟨h _ (by simp), h _ (by simp), h _ (by simp)⟩
    rw [decide_eq_false hall] at hb
    have c2 : ¬ (okB tos ∧ okB ttl ∧ okB pt ∧ (0 ≤ id ∧ id ≤ 65535) ∧ (0 ≤ at' ∧ at' ≤ 65528) ∧ Int.tmod at' 8 = 0) := fun h => cB ⟨h.1, h.2.1, h.2.2.1⟩
    rw [if_neg c2]
    simp only [go_sem, ↓reduceIte, reduceCtorEq, upd_ne, back_new (no_at), Nat.reduceAdd, Nat.reduceEqDiff, Nat.reduceMul, Nat.reduceSub, Nat.reduceLeDiff, Nat.reduceLT, Int.reduceToNat, Int.reduceLE, Int.reduceLT, Int.reduceEq, UInt8.reduceOfNat, hb, hfr, hto]
theorem ev_big4 (x : Int) (m : Nat) (hm : m = 1 ∨ m = 2 ∨ m = 4) (hx : 0 ≤ x ∧ x < ((256 ^ m : Nat) : Int)) (h64 : I64 x) : S.ev (n + 2) id_ip4_big [.int .i64 x, .int .i64 (m : Int)] none = some (.str (beB m x.toNat), none) := by
  rw [Sys.step hS.h_ip4_big, F_ip4_big_eq]
  unfold F_ip4_big
  have h1 := ev_Big hS n x m hm h64
  unfold bigR at h1
  rw [if_pos hx] at h1
  (try simp only [guard_merge, or_merge, and_merge, or_pick, and_pick, guard_or, guard_and]); simp only [to_ob]
  simp only [go_sem, ↓reduceIte, reduceCtorEq, upd_ne, back_new (no_at), Nat.reduceAdd, Nat.reduceEqDiff, Nat.reduceMul, Nat.reduceSub, Nat.reduceLeDiff, Nat.reduceLT, Int.reduceToNat, Int.reduceLE, Int.reduceLT, Int.reduceEq, UInt8.reduceOfNat, h1]
theorem ev_fault4' (c : Int) : S.ev (n + 1) id_ip4_fault [.int .i64 c] none = some (faultLV c, none) := by
  rw [Sys.step hS.h_ip4_fault, F_ip4_fault_eq]
  unfold F_ip4_fault
  simp only [to_ob]
  simp only [go_sem, ↓reduceIte, reduceCtorEq, upd_ne, back_new (no_at), Nat.reduceAdd, Nat.reduceEqDiff, Nat.reduceMul, Nat.reduceSub, Nat.reduceLeDiff, Nat.reduceLT, Int.reduceToNat, Int.reduceLE, Int.reduceLT, Int.reduceEq, UInt8.reduceOfNat]
end
end Go.Ev

/- Layer 3: a packet's bytes. -/
namespace Go.Ev
set_option linter.unusedSimpArgs false
set_option linter.unusedVariables false
set_option maxRecDepth 4000
set_option maxHeartbeats 4000000

def at4 (at' : Int) (df mo : Bool) : Nat := at'.toNat / 8 + (if df = true then 16384 else 0) + (if mo = true then 8192 else 0)
def hd4 (tos id ttl pt at' : Int) (df mo : Bool) (op da : List UInt8) : List UInt8 :=
  beB 1 (64 + (20 + op.length) / 4) ++ (beB 1 tos.toNat ++ (beB 2 (20 + op.length + da.length) ++ (beB 2 id.toNat ++ (beB 2 (at4 at' df mo) ++ (beB 1 ttl.toNat ++ beB 1 pt.toNat)))))
def x4 (tos id ttl pt at' : Int) (df mo : Bool) (fr to op da : List UInt8) : Int := sumS (hd4 tos id ttl pt at' df mo op da ++ (fr ++ (to ++ op)))
def by4 (tos id ttl pt at' : Int) (df mo : Bool) (fr to op da : List UInt8) : List UInt8 :=
  hd4 tos id ttl pt at' df mo op da ++ (beB 2 (x4 tos id ttl pt at' df mo fr to op da).toNat ++ (fr ++ (to ++ (op ++ da))))
def by4R (tos id ttl pt at' : Int) (df mo : Bool) (fr to op da : List UInt8) : List UInt8 := if why4 tos id ttl pt at' mo op da = 0 then by4 tos id ttl pt at' df mo fr to op da else []

structure Ok4 (tos id ttl pt at' : Int) (mo : Bool) (op da : List UInt8) : Prop where
  ktos : 0 ≤ tos ∧ tos ≤ 255
  kttl : 0 ≤ ttl ∧ ttl ≤ 255
  kpt : 0 ≤ pt ∧ pt ≤ 255
  kid : 0 ≤ id ∧ id ≤ 65535
  kat : 0 ≤ at' ∧ at' ≤ 65528
  kat8 : Int.tmod at' 8 = 0
  kop : op.length ≤ 40
  kop4 : op.length % 4 = 0
  kmo : mo = true → da.length ≠ 0 ∧ da.length % 8 = 0
  kall : 20 + (op.length : Int) + at' + da.length ≤ 65535
theorem why4_zero {tos id ttl pt at' : Int} {mo : Bool} {op da : List UInt8} : why4 tos id ttl pt at' mo op da = 0 ↔ Ok4 tos id ttl pt at' mo op da := by
  unfold why4
  constructor
  · intro h
    split at h
    case isFalse => simp at h
    rename_i h1
    split at h
    case isFalse => simp at h
    rename_i h2
    split at h
    case isFalse => simp at h
    rename_i h3
    exact ⟨h1.1, h1.2.1, h1.2.2.1, h1.2.2.2.1, h1.2.2.2.2.1, h1.2.2.2.2.2, h2.1, h2.2.1, h2.2.2, h3⟩
  · intro h
    rw [if_pos ⟨h.ktos, h.kttl, h.kpt, h.kid, h.kat, h.kat8⟩, if_pos ⟨h.kop, h.kop4, h.kmo⟩, if_pos h.kall]

theorem or_df {a : Nat} (h : a < 8192) : a ||| 16384 = a + 16384 := by
  rw [Nat.or_comm, show 16384 = 1 <<< 14 by rfl, ← Nat.shiftLeft_add_eq_or_of_lt (by omega)]
  omega
theorem or_mo {a : Nat} (h : a < 8192) : a ||| 8192 = a + 8192 := by
  rw [Nat.or_comm, show 8192 = 1 <<< 13 by rfl, ← Nat.shiftLeft_add_eq_or_of_lt (by omega)]
  omega
theorem or_dm {a : Nat} (h : a < 8192) : (a + 16384) ||| 8192 = a + 16384 + 8192 := by
  rw [← or_df h, Nat.or_assoc, show 16384 ||| 8192 = 3 <<< 13 by rfl, Nat.or_comm, ← Nat.shiftLeft_add_eq_or_of_lt (by omega), or_df h]
  simp only [Nat.shiftLeft_eq]
  omega

section
variable {S : Sys} (hS : Has S) (n : Nat)
include hS
theorem ev_bytes4 {tos id ttl pt at' : Int} {df mo : Bool} {fr to op da : List UInt8} (hf : FitIp4 tos id ttl pt at' fr to op da) :
    S.ev (n + 3) id_ip4_Bytes [ip4LV tos id ttl pt at' df mo fr to op da] none = some (.tup [.str (by4R tos id ttl pt at' df mo fr to op da), fE (why4 tos id ttl pt at' mo op da)], none) := by
  rw [Sys.step hS.h_ip4_Bytes, F_ip4_Bytes_eq]
  unfold F_ip4_Bytes
  have hfr := hf.hfr
  have hto := hf.hto
  have hw := ev_why4 hS n (tos := tos) (id := id) (ttl := ttl) (pt := pt) (at' := at') (df := df) (mo := mo) hfr hto hf.hop hf.hda
  have hfa := ev_fault4' hS (n + 1)
  (try simp only [guard_merge, or_merge, and_merge, or_pick, and_pick, guard_or, guard_and]); simp only [to_ob]
  unfold by4R
  by_cases c : why4 tos id ttl pt at' mo op da = 0
  · have ok := why4_zero.1 c
    obtain ⟨o1, o2, o3, o4, o5, o6, o7, o8, o9, o10⟩ := ok
    rw [c] at hw
    obtain ⟨at', rfl⟩ := Int.eq_ofNat_of_zero_le o5.1
    have b1 : S.ev (n + 2) id_ip4_big [.int .i64 ((64 + (20 + op.length) / 4 : Nat) : Int), .int .i64 1] none = some (.str (beB 1 (64 + (20 + op.length) / 4)), none) := ev_big4 hS n _ 1 (by omega) (lt1 (by omega) (by omega)) ⟨by omega, by omega⟩
    have b2 : S.ev (n + 2) id_ip4_big [.int .i64 tos, .int .i64 1] none = some (.str (beB 1 tos.toNat), none) := ev_big4 hS n _ 1 (by omega) (lt1 (by omega) (by omega)) ⟨by omega, by omega⟩
    have b3 : S.ev (n + 2) id_ip4_big [.int .i64 ((20 + op.length + da.length : Nat) : Int), .int .i64 2] none = some (.str (beB 2 (20 + op.length + da.length)), none) := ev_big4 hS n _ 2 (by omega) (lt2 (by omega) (by omega)) ⟨by omega, by omega⟩
    have b4 : S.ev (n + 2) id_ip4_big [.int .i64 id, .int .i64 2] none = some (.str (beB 2 id.toNat), none) := ev_big4 hS n _ 2 (by omega) (lt2 (by omega) (by omega)) ⟨by omega, by omega⟩
    have ha4 : at4 at' df mo < 65536 := by unfold at4; rw [Int.toNat_natCast]; split <;> split <;> omega
    have b5 : S.ev (n + 2) id_ip4_big [.int .i64 ((at4 at' df mo : Nat) : Int), .int .i64 2] none = some (.str (beB 2 (at4 at' df mo)), none) := ev_big4 hS n _ 2 (by omega) (lt2 (by omega) (by omega)) ⟨by omega, by omega⟩
    have b6 : S.ev (n + 2) id_ip4_big [.int .i64 ttl, .int .i64 1] none = some (.str (beB 1 ttl.toNat), none) := ev_big4 hS n _ 1 (by omega) (lt1 (by omega) (by omega)) ⟨by omega, by omega⟩
    have b7 : S.ev (n + 2) id_ip4_big [.int .i64 pt, .int .i64 1] none = some (.str (beB 1 pt.toNat), none) := ev_big4 hS n _ 1 (by omega) (lt1 (by omega) (by omega)) ⟨by omega, by omega⟩
    have hx := sumS_le (hd4 tos id ttl pt at' df mo op da ++ (fr ++ (to ++ op)))
    have hx : 0 ≤ x4 tos id ttl pt at' df mo fr to op da ∧ x4 tos id ttl pt at' df mo fr to op da ≤ 65535 := hx
    have b8 : S.ev (n + 2) id_ip4_big [.int .i64 (x4 tos id ttl pt at' df mo fr to op da), .int .i64 2] none = some (.str (beB 2 (x4 tos id ttl pt at' df mo fr to op da).toNat), none) := ev_big4 hS n _ 2 (by omega) (lt2 (by omega) (by omega)) ⟨by omega, by omega⟩
    have ho := ev_Of hS n [hd4 tos id ttl pt at' df mo op da, fr ++ (to ++ op)] (by simp) (by simp [hd4, beB_len]; omega)
    simp only [List.map_cons, List.map_nil, List.flatten_cons, List.flatten_nil, List.append_nil] at ho
    have ho : S.ev (n + 2) id_sum_Of [.lst none [.str (hd4 tos id ttl pt at' df mo op da), .str (fr ++ (to ++ op))]] none = some (.int .i64 (x4 tos id ttl pt at' df mo fr to op da), none) := ho
    have hby : by4 tos id ttl pt at' df mo fr to op da = hd4 tos id ttl pt at' df mo op da ++ (beB 2 (x4 tos id ttl pt at' df mo fr to op da).toNat ++ (fr ++ (to ++ (op ++ da)))) := rfl
    generalize by4 tos id ttl pt at' df mo fr to op da = Y at *
    generalize x4 tos id ttl pt at' df mo fr to op da = X at *
    have e1 : IntKind.i64.wrap (Int.tdiv (at' : Int) 8) = ((at' / 8 : Nat) : Int) := by
      rw [show Int.tdiv (at' : Int) 8 = ((at' / 8 : Nat) : Int) from rfl, wrap_id (by omega) (by omega)]
    have e2 : IntKind.i64.wrap (20 + (op.length : Int)) = ((20 + op.length : Nat) : Int) := by rw [wrap_id (by omega) (by omega)]; omega
    have e3 : IntKind.i64.wrap (Int.tdiv ((20 + op.length : Nat) : Int) 4) = (((20 + op.length) / 4 : Nat) : Int) := by
      rw [show Int.tdiv ((20 + op.length : Nat) : Int) 4 = (((20 + op.length) / 4 : Nat) : Int) from rfl, wrap_id (by omega) (by omega)]
    have e4 : IntKind.i64.wrap (64 + (((20 + op.length) / 4 : Nat) : Int)) = ((64 + (20 + op.length) / 4 : Nat) : Int) := by rw [wrap_id (by omega) (by omega)]; omega
    have e5 : IntKind.i64.wrap (((20 + op.length : Nat) : Int) + (da.length : Int)) = ((20 + op.length + da.length : Nat) : Int) := by rw [wrap_id (by omega) (by omega)]; omega
    have hl := beB_len
    have hl9 : ∀ k : Nat, k ≤ 1000000 → k ≤ maxStr := fun k h => by unfold maxStr; omega
    have a7 : at' / 8 < 8192 := by omega
    have f1 : bitsOf .or .i64 ((at' / 8 : Nat) : Int) 16384 = ((at' / 8 + 16384 : Nat) : Int) := by
      rw [show (16384 : Int) = ((16384 : Nat) : Int) from rfl, bits_or_nat (by simp [IntKind.max, IntKind.signed, IntKind.bits]; omega) (by decide), or_df a7]
    have f2 : bitsOf .or .i64 ((at' / 8 : Nat) : Int) 8192 = ((at' / 8 + 8192 : Nat) : Int) := by
      rw [show (8192 : Int) = ((8192 : Nat) : Int) from rfl, bits_or_nat (by simp [IntKind.max, IntKind.signed, IntKind.bits]; omega) (by decide), or_mo a7]
    have f3 : bitsOf .or .i64 ((at' / 8 + 16384 : Nat) : Int) 8192 = ((at' / 8 + 16384 + 8192 : Nat) : Int) := by
      rw [show (8192 : Int) = ((8192 : Nat) : Int) from rfl, bits_or_nat (by simp [IntKind.max, IntKind.signed, IntKind.bits]; omega) (by decide), or_dm a7]
    unfold hd4 at hby ho
    have ht1 : fr.take 4 = fr := List.take_of_length_le (by omega)
    have ht2 : to.take 4 = to := List.take_of_length_le (by omega)
    have m2 : 2 ≤ maxStr := by decide
    have m4 : 4 ≤ maxStr := by decide
    have m6 : 6 ≤ maxStr := by decide
    have m8 : 8 ≤ maxStr := by decide
    have m9 : 9 ≤ maxStr := by decide
    have m10 : 10 ≤ maxStr := by decide
    cases df
    · cases mo
      · have g5 : at4 at' false false = at' / 8 := by unfold at4; simp
        rw [g5] at b5 hby ho
        simp only [go_sem, ↓reduceIte, reduceCtorEq, upd_ne, back_new (no_at), Nat.reduceAdd, Nat.reduceEqDiff, Nat.reduceMul, Nat.reduceSub, Nat.reduceLeDiff, Nat.reduceLT, Int.reduceToNat, Int.reduceLE, Int.reduceLT, Int.reduceEq, UInt8.reduceOfNat, hw, c, hfr, hto, e1, e2, e3, e4, e5, b1, b2, b3, b4, b5, b6, b7, b8, ho, hl, ht1, ht2, toBytes_byteLV, m2, m4, m6, m8, m9, m10, List.append_assoc, List.length_append]
        simp only [hby, fE, if_true, List.append_assoc]
        repeat rw [if_pos (by unfold maxStr; omega)]
      · have g5 : at4 at' false true = at' / 8 + 8192 := by unfold at4; simp
        rw [g5] at b5 hby ho
        simp only [go_sem, ↓reduceIte, reduceCtorEq, upd_ne, back_new (no_at), Nat.reduceAdd, Nat.reduceEqDiff, Nat.reduceMul, Nat.reduceSub, Nat.reduceLeDiff, Nat.reduceLT, Int.reduceToNat, Int.reduceLE, Int.reduceLT, Int.reduceEq, UInt8.reduceOfNat, hw, c, hfr, hto, e1, e2, e3, e4, e5, f2, b1, b2, b3, b4, b5, b6, b7, b8, ho, hl, ht1, ht2, toBytes_byteLV, m2, m4, m6, m8, m9, m10, List.append_assoc, List.length_append]
        simp only [hby, fE, if_true, List.append_assoc]
        repeat rw [if_pos (by unfold maxStr; omega)]
    · cases mo
      · have g5 : at4 at' true false = at' / 8 + 16384 := by unfold at4; simp
        rw [g5] at b5 hby ho
        simp only [go_sem, ↓reduceIte, reduceCtorEq, upd_ne, back_new (no_at), Nat.reduceAdd, Nat.reduceEqDiff, Nat.reduceMul, Nat.reduceSub, Nat.reduceLeDiff, Nat.reduceLT, Int.reduceToNat, Int.reduceLE, Int.reduceLT, Int.reduceEq, UInt8.reduceOfNat, hw, c, hfr, hto, e1, e2, e3, e4, e5, f1, b1, b2, b3, b4, b5, b6, b7, b8, ho, hl, ht1, ht2, toBytes_byteLV, m2, m4, m6, m8, m9, m10, List.append_assoc, List.length_append]
        simp only [hby, fE, if_true, List.append_assoc]
        repeat rw [if_pos (by unfold maxStr; omega)]
      · have g5 : at4 at' true true = at' / 8 + 16384 + 8192 := by unfold at4; simp
        rw [g5] at b5 hby ho
        simp only [go_sem, ↓reduceIte, reduceCtorEq, upd_ne, back_new (no_at), Nat.reduceAdd, Nat.reduceEqDiff, Nat.reduceMul, Nat.reduceSub, Nat.reduceLeDiff, Nat.reduceLT, Int.reduceToNat, Int.reduceLE, Int.reduceLT, Int.reduceEq, UInt8.reduceOfNat, hw, c, hfr, hto, e1, e2, e3, e4, e5, f1, f3, b1, b2, b3, b4, b5, b6, b7, b8, ho, hl, ht1, ht2, toBytes_byteLV, m2, m4, m6, m8, m9, m10, List.append_assoc, List.length_append]
        simp only [hby, fE, if_true, List.append_assoc]
        repeat rw [if_pos (by unfold maxStr; omega)]
  · have hw' : ¬ why4 tos id ttl pt at' mo op da = 0 := c
    simp only [go_sem, ↓reduceIte, reduceCtorEq, upd_ne, back_new (no_at), Nat.reduceAdd, Nat.reduceEqDiff, Nat.reduceMul, Nat.reduceSub, Nat.reduceLeDiff, Nat.reduceLT, Int.reduceToNat, Int.reduceLE, Int.reduceLT, Int.reduceEq, UInt8.reduceOfNat, hw, hfa, c, hfr, hto, fE]
end
end Go.Ev

/- Layer 3: bytes parsed. -/
namespace Go.Ev
set_option linter.unusedSimpArgs false
set_option linter.unusedVariables false
set_option maxRecDepth 4000
set_option maxHeartbeats 4000000
def n4 (s : List UInt8) : Nat := bAt s 0 % 16 * 4
def pat4 (s : List UInt8) : Int := ((wAt s 6 % 8192 * 8 : Nat) : Int)
def pdf4 (s : List UInt8) : Bool := decide (wAt s 6 / 16384 % 2 = 1)
def pmo4 (s : List UInt8) : Bool := decide (wAt s 6 / 8192 % 2 = 1)
def pop4 (s : List UInt8) : List UInt8 := (s.drop 20).take (n4 s - 20)
def pda4 (s : List UInt8) : List UInt8 := (s.drop (n4 s)).take (wAt s 2 - n4 s)
def pfr4 (s : List UInt8) : List UInt8 := (s.drop 12).take 4
def pto4 (s : List UInt8) : List UInt8 := (s.drop 16).take 4
def pwhy4 (s : List UInt8) : Int := why4 (bAt s 1) (wAt s 4) (bAt s 8) (bAt s 9) (pat4 s) (pmo4 s) (pop4 s) (pda4 s)
def pK4 (s : List UInt8) : Int :=
  if s.length < 20 then 7 else if bAt s 0 / 16 ≠ 4 ∨ n4 s < 20 then 8 else if s.length < n4 s then 7 else if sumS (s.take (n4 s)) ≠ 0 then 9 else
  if wAt s 2 < n4 s then 8 else if s.length < wAt s 2 then 7 else if 32768 ≤ wAt s 6 ∨ pwhy4 s ≠ 0 then 8 else 0
abbrev z4LV : LV := ip4LV 0 0 0 0 0 false false [0, 0, 0, 0] [0, 0, 0, 0] [] []
def pLV4 (s : List UInt8) : LV := if pK4 s = 0 then ip4LV (bAt s 1) (wAt s 4) (bAt s 8) (bAt s 9) (pat4 s) (pdf4 s) (pmo4 s) (pfr4 s) (pto4 s) (pop4 s) (pda4 s) else z4LV

theorem and_pow0 (x k : Nat) : x &&& 2 ^ k = 0 ↔ ¬ x / 2 ^ k % 2 = 1 := by
  constructor
  · intro h h1
    have h2 : (x &&& 2 ^ k).testBit k = false := by rw [h]; exact Nat.zero_testBit k
    rw [Nat.testBit_and, Nat.testBit_two_pow, Nat.testBit_eq_decide_div_mod_eq] at h2
    simp [h1] at h2
  · intro h
    apply Nat.eq_of_testBit_eq
    intro i
    rw [Nat.testBit_and, Nat.testBit_two_pow, Nat.zero_testBit]
    by_cases hk : k = i
    · subst hk; rw [Nat.testBit_eq_decide_div_mod_eq]; simp [h]
    · simp [hk]
theorem bit14 (x : Nat) (h : x ≤ 65535) : (bitsOf .and .i64 (x : Int) 16384 = 0) ↔ ¬ x / 16384 % 2 = 1 := by
  rw [show (16384 : Int) = ((2 ^ 14 : Nat) : Int) from rfl, bits_and_nat (by simp [IntKind.max, IntKind.signed, IntKind.bits]; omega) (by decide)]
  have := and_pow0 x 14
  rw [← show (2 : Nat) ^ 14 = 16384 from rfl, ← this]
  omega
theorem bit13 (x : Nat) (h : x ≤ 65535) : (bitsOf .and .i64 (x : Int) 8192 = 0) ↔ ¬ x / 8192 % 2 = 1 := by
  rw [show (8192 : Int) = ((2 ^ 13 : Nat) : Int) from rfl, bits_and_nat (by simp [IntKind.max, IntKind.signed, IntKind.bits]; omega) (by decide)]
  have := and_pow0 x 13
  rw [← show (2 : Nat) ^ 13 = 8192 from rfl, ← this]
  omega
theorem bit15 (x : Nat) (h : x ≤ 65535) : (bitsOf .and .i64 (x : Int) 32768 = 0) ↔ x < 32768 := by
  rw [show (32768 : Int) = ((2 ^ 15 : Nat) : Int) from rfl, bits_and_nat (by simp [IntKind.max, IntKind.signed, IntKind.bits]; omega) (by decide)]
  have := and_pow0 x 15
  rw [show (2 : Nat) ^ 15 = 32768 from rfl] at this
  constructor
  · intro h1
    have h1 : x &&& 2 ^ 15 = 0 := by omega
    have := this.1 h1
    omega
  · intro h1
    have h2 := this.2 (by omega)
    rw [h2]; rfl

theorem wc7 {sl : Slots} {t g : Nat} {tos id ttl pt at' : Int} {df mo : Bool} {fr to op da s : List UInt8} (hf : fr.length = 4) (hs : 4 ≤ s.length) :
    wCopy (upd sl t (.obj g (ip4LV tos id ttl pt at' df mo fr to op da))) (.arr t g [7] 7 0 4) (.str s) = some (.int .i64 4, upd (upd sl t (.obj g (ip4LV tos id ttl pt at' df mo fr to op da))) t (.obj g (ip4LV tos id ttl pt at' df mo (s.take 4) to op da))) := by
  have h1 : min s.length 4 = 4 := by omega
  have h2 : fr.drop 4 = [] := List.drop_eq_nil_of_le (by omega)
  have hg : getPath (ip4LV tos id ttl pt at' df mo fr to op da) [7] = some (.bytes fr, 7) := by simp only [go_sem, ↓reduceIte, reduceCtorEq, upd_ne, back_new (no_at), Nat.reduceAdd, Nat.reduceEqDiff, Nat.reduceMul, Nat.reduceSub, Nat.reduceLeDiff, Nat.reduceLT, Int.reduceToNat, Int.reduceLE, Int.reduceLT, Int.reduceEq, UInt8.reduceOfNat]
  have hp : setPath (ip4LV tos id ttl pt at' df mo fr to op da) [7] (.bytes (s.take 4)) = some (ip4LV tos id ttl pt at' df mo (s.take 4) to op da) := by simp only [go_sem, ↓reduceIte, reduceCtorEq, upd_ne, back_new (no_at), Nat.reduceAdd, Nat.reduceEqDiff, Nat.reduceMul, Nat.reduceSub, Nat.reduceLeDiff, Nat.reduceLT, Int.reduceToNat, Int.reduceLE, Int.reduceLT, Int.reduceEq, UInt8.reduceOfNat]
  unfold wCopy
  simp only [upd_same, if_true, hg]
  rw [if_pos ⟨trivial, by omega⟩]
  simp only [h1, Option.bind_some, List.take_zero, List.nil_append, Nat.zero_add, h2, List.append_nil, hp, Option.map_some]
  rfl
theorem wc8 {sl : Slots} {t g : Nat} {tos id ttl pt at' : Int} {df mo : Bool} {fr to op da s : List UInt8} (hf : fr.length = 4) (ht : to.length = 4) (hs : 4 ≤ s.length) :
    wCopy (upd sl t (.obj g (ip4LV tos id ttl pt at' df mo fr to op da))) (.arr t g [8] 11 0 4) (.str s) = some (.int .i64 4, upd (upd sl t (.obj g (ip4LV tos id ttl pt at' df mo fr to op da))) t (.obj g (ip4LV tos id ttl pt at' df mo fr (s.take 4) op da))) := by
  have h1 : min s.length 4 = 4 := by omega
  have h2 : to.drop 4 = [] := List.drop_eq_nil_of_le (by omega)
  have hg : getPath (ip4LV tos id ttl pt at' df mo fr to op da) [8] = some (.bytes to, 11) := by simp only [go_sem, ↓reduceIte, reduceCtorEq, upd_ne, back_new (no_at), Nat.reduceAdd, Nat.reduceEqDiff, Nat.reduceMul, Nat.reduceSub, Nat.reduceLeDiff, Nat.reduceLT, Int.reduceToNat, Int.reduceLE, Int.reduceLT, Int.reduceEq, UInt8.reduceOfNat, hf]
  have hp : setPath (ip4LV tos id ttl pt at' df mo fr to op da) [8] (.bytes (s.take 4)) = some (ip4LV tos id ttl pt at' df mo fr (s.take 4) op da) := by simp only [go_sem, ↓reduceIte, reduceCtorEq, upd_ne, back_new (no_at), Nat.reduceAdd, Nat.reduceEqDiff, Nat.reduceMul, Nat.reduceSub, Nat.reduceLeDiff, Nat.reduceLT, Int.reduceToNat, Int.reduceLE, Int.reduceLT, Int.reduceEq, UInt8.reduceOfNat]
  unfold wCopy
  simp only [upd_same, if_true, hg]
  rw [if_pos ⟨trivial, by omega⟩]
  simp only [h1, Option.bind_some, List.take_zero, List.nil_append, Nat.zero_add, h2, List.append_nil, hp, Option.map_some]
  rfl

section
variable {S : Sys} (hS : Has S) (n : Nat)
include hS
theorem ev_two4 (s : List UInt8) (i : Nat) (h : i + 1 < s.length) (hi : i ≤ 1000) : S.ev (n + 1) id_ip4_Parse_1 [.int .i64 (i : Int), .box (.str s)] none = some (.int .i64 (wAt s i : Nat), none) := by
  rw [Sys.step hS.h_ip4_Parse_1, F_ip4_Parse_1_eq]
  unfold F_ip4_Parse_1
  have ha := get_def (s := s) (i := i) (by omega)
  have hb := get_def (s := s) (i := i + 1) (by omega)
  have hal := (s.getD i 0).toNat_lt
  have hbl := (s.getD (i + 1) 0).toNat_lt
  have e1 : IntKind.i64.wrap ((s.getD i 0).toNat : Int) = ((s.getD i 0).toNat : Int) := wrap_id (by omega) (by omega)
  have e2 : IntKind.i64.wrap ((s.getD (i + 1) 0).toNat : Int) = ((s.getD (i + 1) 0).toNat : Int) := wrap_id (by omega) (by omega)
  have e3 : IntKind.i64.wrap ((i : Int) + 1) = ((i + 1 : Nat) : Int) := by rw [wrap_id (by omega) (by omega)]; omega
  have e4 : IntKind.i64.wrap (((s.getD i 0).toNat : Int) * 2 ^ min 8 64) = (((s.getD i 0).toNat * 256 : Nat) : Int) := by
    rw [show min 8 64 = 8 from rfl, wrap_id (by omega) (by omega)]; omega
  have e5 := w16_or (s.getD i 0) (s.getD (i + 1) 0)
  simp only [to_ob]
  simp only [go_sem, ↓reduceIte, reduceCtorEq, upd_ne, back_new (no_at), Nat.reduceAdd, Nat.reduceEqDiff, Nat.reduceMul, Nat.reduceSub, Nat.reduceLeDiff, Nat.reduceLT, Int.reduceToNat, Int.reduceLE, Int.reduceLT, Int.reduceEq, UInt8.reduceOfNat, List.getElem?_map, Int.toNat_natCast, ha, hb, e1, e2, e3, e4, e5, wAt]
theorem ev_Right1 (a : List UInt8) (h : a.length ≤ 140737488351232) : S.ev (n + 3) id_sum_Right [.lst none [.str a]] none = some (.bool (decide (sumS a = 0)), none) := by
  rw [Sys.step hS.h_sum_Right, F_sum_Right_eq]
  unfold F_sum_Right
  have ho := ev_Of hS n [a] (by simp) (by simpa using h)
  simp only [List.map_cons, List.map_nil, List.flatten_cons, List.flatten_nil, List.append_nil] at ho
  (try simp only [guard_merge, or_merge, and_merge, or_pick, and_pick, guard_or, guard_and]); simp only [to_ob]
  simp only [go_sem, ↓reduceIte, reduceCtorEq, upd_ne, back_new (no_at), Nat.reduceAdd, Nat.reduceEqDiff, Nat.reduceMul, Nat.reduceSub, Nat.reduceLeDiff, Nat.reduceLT, Int.reduceToNat, Int.reduceLE, Int.reduceLT, Int.reduceEq, UInt8.reduceOfNat, ho, sumS]
  rfl
theorem ev_parse4 (s : List UInt8) (hs : s.length ≤ 140737488351232) : S.ev (n + 4) id_ip4_Parse [.str s] none = some (.tup [pLV4 s, fE (pK4 s)], none) := by
  rw [Sys.step hS.h_ip4_Parse, F_ip4_Parse_eq]
  unfold F_ip4_Parse
  have hfa := ev_fault4' hS (n + 2)
  (try simp only [guard_merge, or_merge, and_merge, or_pick, and_pick, guard_or, guard_and]); simp only [to_ob]
  unfold pLV4 pK4
  by_cases c1 : s.length < 20
  · have c1' : (s.length : Int) < 20 := by omega
    simp only [go_sem, ↓reduceIte, reduceCtorEq, upd_ne, back_new (no_at), Nat.reduceAdd, Nat.reduceEqDiff, Nat.reduceMul, Nat.reduceSub, Nat.reduceLeDiff, Nat.reduceLT, Int.reduceToNat, Int.reduceLE, Int.reduceLT, Int.reduceEq, UInt8.reduceOfNat, c1, c1', hfa, fE]
  · have c1' : ¬ (s.length : Int) < 20 := by omega
    have g0 := get_def (s := s) (i := 0) (by omega)
    have hb0 := bAt_le s 0
    have e1 : bitsOf .and .u8 ((s.getD 0 0).toNat : Int) 15 = ((bAt s 0 % 16 : Nat) : Int) := by
      rw [show (15 : Int) = ((2 ^ 4 - 1 : Nat) : Int) from rfl, bits_mask 4 (by omega) (show ((s.getD 0 0).toNat : Int) ≤ 255 by unfold bAt at hb0; omega) (by decide)]
      rfl
    have e2 : IntKind.i64.wrap ((bAt s 0 % 16 : Nat) : Int) = ((bAt s 0 % 16 : Nat) : Int) := wrap_id (by omega) (by omega)
    have e3 : IntKind.i64.wrap (((bAt s 0 % 16 : Nat) : Int) * 4) = ((n4 s : Nat) : Int) := by rw [wrap_id (by omega) (by omega)]; unfold n4; omega
    have e4 : Int.fdiv ((s.getD 0 0).toNat : Int) (2 ^ min 4 8) = ((bAt s 0 / 16 : Nat) : Int) := by
      rw [show min 4 8 = 4 from rfl, Int.fdiv_eq_ediv_of_nonneg _ (by decide)]; rfl
    by_cases c2 : bAt s 0 / 16 ≠ 4 ∨ n4 s < 20
    · have c2' : (¬ ((bAt s 0 / 16 : Nat) : Int) = 4) ∨ ((n4 s : Nat) : Int) < 20 := by omega
      simp only [go_sem, ↓reduceIte, reduceCtorEq, upd_ne, back_new (no_at), Nat.reduceAdd, Nat.reduceEqDiff, Nat.reduceMul, Nat.reduceSub, Nat.reduceLeDiff, Nat.reduceLT, Int.reduceToNat, Int.reduceLE, Int.reduceLT, Int.reduceEq, UInt8.reduceOfNat, List.getElem?_map, Int.toNat_natCast, c1, c1', c2, c2', hfa, fE, g0, byteLV, e1, e2, e3, e4]
    · have c2' : ¬ ((¬ ((bAt s 0 / 16 : Nat) : Int) = 4) ∨ ((n4 s : Nat) : Int) < 20) := by omega
      by_cases c3 : s.length < n4 s
      · have c3' : (s.length : Int) < ((n4 s : Nat) : Int) := by omega
        simp only [go_sem, ↓reduceIte, reduceCtorEq, upd_ne, back_new (no_at), Nat.reduceAdd, Nat.reduceEqDiff, Nat.reduceMul, Nat.reduceSub, Nat.reduceLeDiff, Nat.reduceLT, Int.reduceToNat, Int.reduceLE, Int.reduceLT, Int.reduceEq, UInt8.reduceOfNat, List.getElem?_map, Int.toNat_natCast, c1, c1', c2, c2', c3, c3', hfa, fE, g0, byteLV, e1, e2, e3, e4]
      · have c3' : ¬ (s.length : Int) < ((n4 s : Nat) : Int) := by omega
        have c3'' : n4 s ≤ s.length := by omega
        have hr := ev_Right1 hS n (s.take (n4 s)) (by rw [List.length_take]; omega)
        by_cases c4 : sumS (s.take (n4 s)) = 0
        · have t2 : S.ev (n + 3) id_ip4_Parse_1 [.int .i64 2, .box (.str s)] none = some (.int .i64 (wAt s 2 : Nat), none) := ev_two4 hS (n + 2) s 2 (by omega) (by omega)
          have t6 : S.ev (n + 3) id_ip4_Parse_1 [.int .i64 6, .box (.str s)] none = some (.int .i64 (wAt s 6 : Nat), none) := ev_two4 hS (n + 2) s 6 (by omega) (by omega)
          have t4 : S.ev (n + 3) id_ip4_Parse_1 [.int .i64 4, .box (.str s)] none = some (.int .i64 (wAt s 4 : Nat), none) := ev_two4 hS (n + 2) s 4 (by omega) (by omega)
          by_cases c5 : wAt s 2 < n4 s
          · have c5' : ((wAt s 2 : Nat) : Int) < ((n4 s : Nat) : Int) := by omega
            simp only [go_sem, ↓reduceIte, reduceCtorEq, upd_ne, back_new (no_at), Nat.reduceAdd, Nat.reduceEqDiff, Nat.reduceMul, Nat.reduceSub, Nat.reduceLeDiff, Nat.reduceLT, Int.reduceToNat, Int.reduceLE, Int.reduceLT, Int.reduceEq, UInt8.reduceOfNat, List.getElem?_map, Int.toNat_natCast, List.all_cons, List.all_nil, Nat.sub_zero, c1, c1', c2, c2', c3, c3', c3'', c4, hr, t2, t6, c5, c5', hfa, fE, g0, byteLV, e1, e2, e3, e4]
          · have c5' : ¬ ((wAt s 2 : Nat) : Int) < ((n4 s : Nat) : Int) := by omega
            have c5'' : n4 s ≤ wAt s 2 := by omega
            by_cases c6 : s.length < wAt s 2
            · have c6' : (s.length : Int) < ((wAt s 2 : Nat) : Int) := by omega
              simp only [go_sem, ↓reduceIte, reduceCtorEq, upd_ne, back_new (no_at), Nat.reduceAdd, Nat.reduceEqDiff, Nat.reduceMul, Nat.reduceSub, Nat.reduceLeDiff, Nat.reduceLT, Int.reduceToNat, Int.reduceLE, Int.reduceLT, Int.reduceEq, UInt8.reduceOfNat, List.getElem?_map, Int.toNat_natCast, List.all_cons, List.all_nil, Nat.sub_zero, c1, c1', c2, c2', c3, c3', c3'', c4, hr, t2, t6, c5, c5', c6, c6', hfa, fE, g0, byteLV, e1, e2, e3, e4]
            · have c6' : ¬ (s.length : Int) < ((wAt s 2 : Nat) : Int) := by omega
              have c6'' : wAt s 2 ≤ s.length := by omega
              have g1 := get_def (s := s) (i := 1) (by omega)
              have g8 := get_def (s := s) (i := 8) (by omega)
              have g9 := get_def (s := s) (i := 9) (by omega)
              have hb1 := bAt_le s 1
              have hb8 := bAt_le s 8
              have hb9 := bAt_le s 9
              have hw6 := wAt_le s 6
              have w1 : IntKind.i64.wrap ((s.getD 1 0).toNat : Int) = ((bAt s 1 : Nat) : Int) := wrap_id (by omega) (by unfold bAt at hb1; omega)
              have w8 : IntKind.i64.wrap ((s.getD 8 0).toNat : Int) = ((bAt s 8 : Nat) : Int) := wrap_id (by omega) (by unfold bAt at hb8; omega)
              have w9 : IntKind.i64.wrap ((s.getD 9 0).toNat : Int) = ((bAt s 9 : Nat) : Int) := wrap_id (by omega) (by unfold bAt at hb9; omega)
              have f1 : bitsOf .and .i64 ((wAt s 6 : Nat) : Int) 8191 = ((wAt s 6 % 8192 : Nat) : Int) := by
                rw [show (8191 : Int) = ((2 ^ 13 - 1 : Nat) : Int) from rfl, bits_mask 13 (by omega) (show ((wAt s 6 : Nat) : Int) ≤ 9223372036854775807 by omega) (by decide)]
                rfl
              have f2 : IntKind.i64.wrap (((wAt s 6 % 8192 : Nat) : Int) * 8) = pat4 s := by rw [wrap_id (by omega) (by omega)]; unfold pat4; omega
              have f3 := bit14 (wAt s 6) hw6
              have f4 := bit13 (wAt s 6) hw6
              have f5 := bit15 (wAt s 6) hw6
              have l20 : 20 ≤ n4 s := by omega
              have l12 : 12 ≤ s.length := by omega
              have l16 : 16 ≤ s.length := by omega
              have l12' : 4 ≤ s.length - 12 := by omega
              have l16' : 4 ≤ s.length - 16 := by omega
              have hlf : (pfr4 s).length = 4 := by unfold pfr4; simp; omega
              have hlt : (pto4 s).length = 4 := by unfold pto4; simp; omega
              have hwy := ev_why4 hS (n + 1) (tos := (bAt s 1 : Nat)) (id := (wAt s 4 : Nat)) (ttl := (bAt s 8 : Nat)) (pt := (bAt s 9 : Nat)) (at' := pat4 s) (df := pdf4 s) (mo := pmo4 s) (op := pop4 s) (da := pda4 s) hlf hlt (by unfold pop4; simp; omega) (by unfold pda4; simp; omega)
              have hwy : S.ev (n + 3) id_ip4_why [ip4LV (bAt s 1 : Nat) (wAt s 4 : Nat) (bAt s 8 : Nat) (bAt s 9 : Nat) (pat4 s) (pdf4 s) (pmo4 s) (pfr4 s) (pto4 s) (pop4 s) (pda4 s)] none = some (.int .i64 (pwhy4 s), none) := hwy
              have k1 : ∀ sl : Slots, wCopy (upd sl 9 (.obj 1 (ip4LV (bAt s 1 : Nat) (wAt s 4 : Nat) (bAt s 8 : Nat) (bAt s 9 : Nat) (pat4 s) (pdf4 s) (pmo4 s) [0, 0, 0, 0] [0, 0, 0, 0] (pop4 s) (pda4 s)))) (.arr 9 1 [7] 7 0 4) (.str (s.drop 12)) = _ := fun sl => wc7 rfl (by simp; omega)
              have k2 : ∀ sl : Slots, wCopy (upd sl 9 (.obj 1 (ip4LV (bAt s 1 : Nat) (wAt s 4 : Nat) (bAt s 8 : Nat) (bAt s 9 : Nat) (pat4 s) (pdf4 s) (pmo4 s) (pfr4 s) [0, 0, 0, 0] (pop4 s) (pda4 s)))) (.arr 9 1 [8] 11 0 4) (.str (s.drop 16)) = _ := fun sl => wc8 hlf rfl (by simp; omega)
              have v1 : decide (wAt s 6 / 16384 % 2 = 1) = pdf4 s := rfl
              have v2 : decide (wAt s 6 / 8192 % 2 = 1) = pmo4 s := rfl
              have v3 : (s.drop 20).take (n4 s - 20) = pop4 s := rfl
              have v4 : (s.drop (n4 s)).take (wAt s 2 - n4 s) = pda4 s := rfl
              have v5 : (s.drop 12).take 4 = pfr4 s := rfl
              have v6 : (s.drop 16).take 4 = pto4 s := rfl
              by_cases c7 : wAt s 6 < 32768
              · have c7' : ¬ 32768 ≤ wAt s 6 := by omega
                by_cases c8 : pwhy4 s = 0
                · rw [c8] at hwy
                  simp only [go_sem, ↓reduceIte, reduceCtorEq, upd_ne, back_new (no_at), Nat.reduceAdd, Nat.reduceEqDiff, Nat.reduceMul, Nat.reduceSub, Nat.reduceLeDiff, Nat.reduceLT, Int.reduceToNat, Int.reduceLE, Int.reduceLT, Int.reduceEq, UInt8.reduceOfNat, List.getElem?_map, Int.toNat_natCast, List.all_cons, List.all_nil, Nat.sub_zero, c1, c1', c2, c2', c3, c3', c3'', c4, hr, t2, t6, t4, c5, c5', c5'', c6, c6', c6'', l20, l12, l16, hfa, fE, g0, g1, g8, g9, byteLV, e1, e2, e3, e4, w1, w8, w9, f1, f2, f3, f4, f5, c7, c7', c8, hwy, v1, v2, v3, v4, v5, v6, Decidable.not_not, k1, k2, hlf, hlt]
                · simp only [go_sem, ↓reduceIte, reduceCtorEq, upd_ne, back_new (no_at), Nat.reduceAdd, Nat.reduceEqDiff, Nat.reduceMul, Nat.reduceSub, Nat.reduceLeDiff, Nat.reduceLT, Int.reduceToNat, Int.reduceLE, Int.reduceLT, Int.reduceEq, UInt8.reduceOfNat, List.getElem?_map, Int.toNat_natCast, List.all_cons, List.all_nil, Nat.sub_zero, c1, c1', c2, c2', c3, c3', c3'', c4, hr, t2, t6, t4, c5, c5', c5'', c6, c6', c6'', l20, l12, l16, hfa, fE, g0, g1, g8, g9, byteLV, e1, e2, e3, e4, w1, w8, w9, f1, f2, f3, f4, f5, c7, c7', c8, hwy, v1, v2, v3, v4, v5, v6, Decidable.not_not, k1, k2, hlf, hlt]
              · have c7' : 32768 ≤ wAt s 6 := by omega
                simp only [go_sem, ↓reduceIte, reduceCtorEq, upd_ne, back_new (no_at), Nat.reduceAdd, Nat.reduceEqDiff, Nat.reduceMul, Nat.reduceSub, Nat.reduceLeDiff, Nat.reduceLT, Int.reduceToNat, Int.reduceLE, Int.reduceLT, Int.reduceEq, UInt8.reduceOfNat, List.getElem?_map, Int.toNat_natCast, List.all_cons, List.all_nil, Nat.sub_zero, c1, c1', c2, c2', c3, c3', c3'', c4, hr, t2, t6, t4, c5, c5', c5'', c6, c6', c6'', l20, l12, l16, hfa, fE, g0, g1, g8, g9, byteLV, e1, e2, e3, e4, w1, w8, w9, f1, f2, f3, f4, f5, c7, c7', hwy, v1, v2, v3, v4, v5, v6, Decidable.not_not, k1, k2, hlf, hlt]
        · simp only [go_sem, ↓reduceIte, reduceCtorEq, upd_ne, back_new (no_at), Nat.reduceAdd, Nat.reduceEqDiff, Nat.reduceMul, Nat.reduceSub, Nat.reduceLeDiff, Nat.reduceLT, Int.reduceToNat, Int.reduceLE, Int.reduceLT, Int.reduceEq, UInt8.reduceOfNat, List.getElem?_map, Int.toNat_natCast, List.all_cons, List.all_nil, Nat.sub_zero, c1, c1', c2, c2', c3, c3', c3'', c4, hr, hfa, fE, g0, byteLV, e1, e2, e3, e4]
end
end Go.Ev

/- Layer 3, plain: a packet is parsed from its bytes. -/
namespace Go.Ev
set_option linter.unusedSimpArgs false
set_option linter.unusedVariables false
set_option maxRecDepth 4000
set_option maxHeartbeats 2000000
theorem sum_in {h r : List UInt8} {x : Nat} (hh : h.length % 2 = 0) (hx : x < 65536) : sumAt 0 (h ++ (UInt8.ofNat (x / 256) :: UInt8.ofNat x :: r)) = sumAt 0 (h ++ r) + x := by
  simp only [sumAt_append, sumAt]
  rw [show 0 + h.length + 1 + 1 = 0 + h.length + 2 by omega, sumAt_two, if_pos (by omega), if_neg (by omega)]
  simp only [UInt8.toNat_ofNat']
  omega
theorem right_in {h r : List UInt8} {x : Nat} (hh : h.length % 2 = 0) (hx : x = (sumS (h ++ r)).toNat) : sumS (h ++ (UInt8.ofNat (x / 256) :: UInt8.ofNat x :: r)) = 0 := by
  have h1 := ones_le (sumAt 0 (h ++ r))
  have h2 : x = 65535 - ones (sumAt 0 (h ++ r)) := by rw [hx]; unfold sumS; omega
  rw [sumS_zero, sum_in hh (by omega), h2]
  rcases right_of0 (t := sumAt 0 (h ++ r)) with h | h
  · exact h
  · exact h.2.elim

def H4 (b0 tos all id A ttl pt x : Nat) : List UInt8 :=
  [UInt8.ofNat b0, UInt8.ofNat tos, UInt8.ofNat (all / 256), UInt8.ofNat all, UInt8.ofNat (id / 256), UInt8.ofNat id, UInt8.ofNat (A / 256), UInt8.ofNat A, UInt8.ofNat ttl, UInt8.ofNat pt, UInt8.ofNat (x / 256), UInt8.ofNat x]
theorem by4_eq (tos id ttl pt at' : Int) (df mo : Bool) (fr to op da : List UInt8) : by4 tos id ttl pt at' df mo fr to op da =
    H4 (64 + (20 + op.length) / 4) tos.toNat (20 + op.length + da.length) id.toNat (at4 at' df mo) ttl.toNat pt.toNat (x4 tos id ttl pt at' df mo fr to op da).toNat ++ (fr ++ (to ++ (op ++ da))) := by
  unfold by4 hd4 H4
  simp only [beB1, beB2, List.cons_append, List.nil_append, List.append_assoc]
theorem hd4_eq (tos id ttl pt at' : Int) (df mo : Bool) (op da : List UInt8) : hd4 tos id ttl pt at' df mo op da =
    (H4 (64 + (20 + op.length) / 4) tos.toNat (20 + op.length + da.length) id.toNat (at4 at' df mo) ttl.toNat pt.toNat 0).take 10 := by
  unfold hd4 H4
  simp only [beB1, beB2, List.cons_append, List.nil_append, List.take_succ_cons, List.take_zero]
theorem by4_len {tos id ttl pt at' : Int} {df mo : Bool} {fr to op da : List UInt8} (hfr : fr.length = 4) (hto : to.length = 4) : (by4 tos id ttl pt at' df mo fr to op da).length = 20 + op.length + da.length := by
  rw [by4_eq]; simp only [H4, List.length_append, List.length_cons, List.length_nil]; omega
theorem len4 {s : List UInt8} (h : s.length = 4) : ∃ a b c d, s = [a, b, c, d] := by
  match s, h with
  | [a, b, c, d], _ => exact ⟨a, b, c, d, rfl⟩
theorem by4_right {tos id ttl pt at' : Int} {df mo : Bool} {fr to op da : List UInt8} : sumS (H4 (64 + (20 + op.length) / 4) tos.toNat (20 + op.length + da.length) id.toNat (at4 at' df mo) ttl.toNat pt.toNat (x4 tos id ttl pt at' df mo fr to op da).toNat ++ (fr ++ (to ++ op))) = 0 := by
  have h := right_in (h := hd4 tos id ttl pt at' df mo op da) (r := fr ++ (to ++ op)) (x := (x4 tos id ttl pt at' df mo fr to op da).toNat) (by simp only [hd4, List.length_append, beB_len]) rfl
  rw [← h, hd4_eq]
  rfl
theorem at4_lt {a : Nat} {df mo : Bool} (h : a ≤ 65528) : at4 (a : Int) df mo < 32768 := by
  unfold at4
  rw [Int.toNat_natCast]
  cases df <;> cases mo <;> simp <;> omega
theorem at4_df {a : Nat} {df mo : Bool} (h : a ≤ 65528) : decide (at4 (a : Int) df mo / 16384 % 2 = 1) = df := by
  unfold at4
  rw [Int.toNat_natCast]
  cases df <;> cases mo <;> simp <;> omega
theorem at4_mo {a : Nat} {df mo : Bool} (h : a ≤ 65528) : decide (at4 (a : Int) df mo / 8192 % 2 = 1) = mo := by
  unfold at4
  rw [Int.toNat_natCast]
  cases df <;> cases mo <;> simp <;> omega
theorem at4_at {a : Nat} {df mo : Bool} (h : a ≤ 65528) (h8 : a % 8 = 0) : at4 (a : Int) df mo % 8192 * 8 = a := by
  unfold at4
  rw [Int.toNat_natCast]
  cases df <;> cases mo <;> simp <;> omega

/-- What is parsed, a part at a time. -/
structure Par4 (s : List UInt8) : Prop where
  h20 : 20 ≤ s.length
  hv : bAt s 0 / 16 = 4
  hn : 20 ≤ n4 s
  hl : n4 s ≤ s.length
  hs : sumS (s.take (n4 s)) = 0
  ha : n4 s ≤ wAt s 2
  hal : wAt s 2 ≤ s.length
  hb : wAt s 6 < 32768
  hw : pwhy4 s = 0
theorem pK4_zero {s : List UInt8} : pK4 s = 0 ↔ Par4 s := by
  unfold pK4
  constructor
  · intro h
    split at h
    · simp at h
    rename_i h1
    split at h
    · simp at h
    rename_i h2
    split at h
    · simp at h
    rename_i h3
    split at h
    · simp at h
    rename_i h4
    split at h
    · simp at h
    rename_i h5
    split at h
    · simp at h
    rename_i h6
    split at h
    · simp at h
    rename_i h7
    have h7a : ¬ 32768 ≤ wAt s 6 := fun q => h7 (Or.inl q)
    have h7b : pwhy4 s = 0 := Classical.byContradiction fun q => h7 (Or.inr q)
    have h2a : bAt s 0 / 16 = 4 := Classical.byContradiction fun q => h2 (Or.inl q)
    have h2b : ¬ n4 s < 20 := fun q => h2 (Or.inr q)
    exact ⟨by omega, h2a, by omega, by omega, Classical.byContradiction fun q => h4 q, by omega, by omega, by omega, h7b⟩
  · intro h
    have := h.h20; have := h.hv; have := h.hn; have := h.hl; have := h.ha; have := h.hal; have := h.hb
    rw [if_neg (by omega), if_neg (by omega), if_neg (by omega), if_neg (fun q => q h.hs), if_neg (by omega), if_neg (by omega), if_neg (fun q => by rcases q with q | q; omega; exact q h.hw)]
theorem parse_by4 {tos id ttl pt at' : Int} {df mo : Bool} {fr to op da : List UInt8} (ok : Ok4 tos id ttl pt at' mo op da) (hfr : fr.length = 4) (hto : to.length = 4) (t : List UInt8) :
    Par4 (by4 tos id ttl pt at' df mo fr to op da ++ t) ∧ n4 (by4 tos id ttl pt at' df mo fr to op da ++ t) = 20 + op.length ∧ wAt (by4 tos id ttl pt at' df mo fr to op da ++ t) 2 = 20 + op.length + da.length ∧
    pLV4 (by4 tos id ttl pt at' df mo fr to op da ++ t) = ip4LV tos id ttl pt at' df mo fr to op da := by
  have hlen := by4_len (tos := tos) (id := id) (ttl := ttl) (pt := pt) (at' := at') (df := df) (mo := mo) (fr := fr) (to := to) (op := op) (da := da) hfr hto
  have hright := by4_right (tos := tos) (id := id) (ttl := ttl) (pt := pt) (at' := at') (df := df) (mo := mo) (fr := fr) (to := to) (op := op) (da := da)
  have heq := by4_eq tos id ttl pt at' df mo fr to op da
  have hwz := why4_zero.2 ok
  obtain ⟨⟨o1, o1'⟩, ⟨o2, o2'⟩, ⟨o3, o3'⟩, ⟨o4, o4'⟩, ⟨o5, o5'⟩, o6, o7, o8, o9, o10⟩ := ok
  obtain ⟨tos, rfl⟩ := nat_of o1
  obtain ⟨ttl, rfl⟩ := nat_of o2
  obtain ⟨pt, rfl⟩ := nat_of o3
  obtain ⟨id, rfl⟩ := nat_of o4
  obtain ⟨a, rfl⟩ := nat_of o5
  generalize (x4 (tos : Int) id ttl pt a df mo fr to op da).toNat = x at *
  generalize hY : by4 (tos : Int) id ttl pt a df mo fr to op da = Y at *
  have o6 : ((a % 8 : Nat) : Int) = 0 := o6
  have hA1 := at4_lt (a := a) (df := df) (mo := mo) (by omega)
  have hA2 := at4_df (a := a) (df := df) (mo := mo) (by omega)
  have hA3 := at4_mo (a := a) (df := df) (mo := mo) (by omega)
  have hA4 := at4_at (a := a) (df := df) (mo := mo) (by omega) (by omega)
  generalize at4 (a : Int) df mo = A at *
  simp only [Int.toNat_natCast] at heq hright
  obtain ⟨f0, f1, f2, f3, rfl⟩ := len4 hfr
  obtain ⟨t0, t1, t2, t3, rfl⟩ := len4 hto
  have h0 : bAt (Y ++ t) 0 = 64 + (20 + op.length) / 4 := by
    rw [heq]; simp only [H4, List.cons_append, List.nil_append, bAt0, UInt8.toNat_ofNat']; omega
  have h1 : bAt (Y ++ t) 1 = tos := by
    rw [heq]; simp only [H4, List.cons_append, List.nil_append, bAt0, bAts, UInt8.toNat_ofNat']; omega
  have h8 : bAt (Y ++ t) 8 = ttl := by
    rw [heq]; simp only [H4, List.cons_append, List.nil_append, bAt0, bAts, UInt8.toNat_ofNat']; omega
  have h9 : bAt (Y ++ t) 9 = pt := by
    rw [heq]; simp only [H4, List.cons_append, List.nil_append, bAt0, bAts, UInt8.toNat_ofNat']; omega
  have h2 : wAt (Y ++ t) 2 = 20 + op.length + da.length := by
    rw [heq]; simp only [H4, List.cons_append, List.nil_append, wAt0, wAts]; exact w16_beB (by omega)
  have h4 : wAt (Y ++ t) 4 = id := by
    rw [heq]; simp only [H4, List.cons_append, List.nil_append, wAt0, wAts]; exact w16_beB (by omega)
  have h6 : wAt (Y ++ t) 6 = A := by
    rw [heq]; simp only [H4, List.cons_append, List.nil_append, wAt0, wAts]; exact w16_beB (by omega)
  have hn : n4 (Y ++ t) = 20 + op.length := by unfold n4; rw [h0]; omega
  have p1 : pat4 (Y ++ t) = (a : Int) := by unfold pat4; rw [h6, hA4]
  have p2 : pdf4 (Y ++ t) = df := by unfold pdf4; rw [h6]; exact hA2
  have p3 : pmo4 (Y ++ t) = mo := by unfold pmo4; rw [h6]; exact hA3
  have p4 : pop4 (Y ++ t) = op := by
    unfold pop4; rw [hn, heq]; simp only [H4, List.cons_append, List.nil_append, List.drop_succ_cons, List.drop_zero]
    rw [show 20 + op.length - 20 = op.length by omega, List.append_assoc, List.take_left']; rfl
  have p5 : pda4 (Y ++ t) = da := by
    unfold pda4; rw [hn, h2, heq]; simp only [H4, List.cons_append, List.nil_append]
    rw [show 20 + op.length = op.length + 20 by omega]
    simp only [List.drop_succ_cons]
    rw [List.append_assoc, List.drop_left', show op.length + 20 + da.length - (op.length + 20) = da.length by omega, List.take_left']
    · rfl
    · rfl
  have p6 : pfr4 (Y ++ t) = [f0, f1, f2, f3] := by
    unfold pfr4; rw [heq]; rfl
  have p7 : pto4 (Y ++ t) = [t0, t1, t2, t3] := by
    unfold pto4; rw [heq]; rfl
  have hw : pwhy4 (Y ++ t) = 0 := by unfold pwhy4; rw [h1, h4, h8, h9, p1, p3, p4, p5]; exact hwz
  have htk : (Y ++ t).take (20 + op.length) = H4 (64 + (20 + op.length) / 4) tos (20 + op.length + da.length) id A ttl pt x ++ ([f0, f1, f2, f3] ++ ([t0, t1, t2, t3] ++ op)) := by
    rw [heq]; simp only [H4, List.cons_append, List.nil_append]
    rw [show 20 + op.length = op.length + 20 by omega]
    simp only [List.take_succ_cons]
    rw [List.append_assoc, List.take_left']; rfl
  have hP : Par4 (Y ++ t) := ⟨by rw [List.length_append]; omega, by omega, by omega, by rw [List.length_append]; omega, by rw [hn, htk]; exact hright, by omega, by rw [List.length_append]; omega, by omega, hw⟩
  refine ⟨hP, hn, h2, ?_⟩
  unfold pLV4
  rw [if_pos (pK4_zero.2 hP), h1, h4, h8, h9, p1, p2, p3, p4, p5, p6, p7]
end Go.Ev

/- Layer 3: what is parsed, as a value. -/
namespace Go.Ev
set_option linter.unusedSimpArgs false
set_option linter.unusedVariables false
set_option maxRecDepth 10000
set_option maxHeartbeats 8000000
abbrev shIp4 : Sh := .agg [.int .i64, .int .i64, .int .i64, .int .i64, .int .i64, .bool, .bool, .bytes 4, .bytes 4, .str, .str]
theorem eq_ip4 {tos id ttl pt at' : Int} {df mo : Bool} {fr to op da : List UInt8} (hfr : fr.length = 4) (hto : to.length = 4) :
    eqSh shIp4 (ip4LV tos id ttl pt at' df mo fr to op da) (ip4LV tos id ttl pt at' df mo fr to op da) = some true := by
  simp only [go_sem, ↓reduceIte, reduceCtorEq, upd_ne, back_new (no_at), Nat.reduceAdd, Nat.reduceEqDiff, Nat.reduceMul, Nat.reduceSub, Nat.reduceLeDiff, Nat.reduceLT, Int.reduceToNat, Int.reduceLE, Int.reduceLT, Int.reduceEq, UInt8.reduceOfNat, hfr, hto]
  cases df <;> cases mo <;> simp
theorem pfr4_len {s : List UInt8} (h : Par4 s) : (pfr4 s).length = 4 := by have := h.h20; unfold pfr4; simp; omega
theorem pto4_len {s : List UInt8} (h : Par4 s) : (pto4 s).length = 4 := by have := h.h20; unfold pto4; simp; omega
theorem q4_ag {s : List UInt8} : LV.isAgg (pLV4 s) = true := by unfold pLV4; split <;> exact Eq.trans rfl rfl
theorem q4_st {s : List UInt8} : stor (pLV4 s) = true := by unfold pLV4; split <;> exact Eq.trans rfl rfl
theorem q4_pl {s : List UInt8} : plainRes (pLV4 s) = true := by unfold pLV4; split <;> exact Eq.trans rfl rfl
theorem q4_fl {s : List UInt8} : flatLen (pLV4 s) = 17 := by
  unfold pLV4
  split
  · rename_i h
    have h := pK4_zero.1 h
    simp only [go_sem, ↓reduceIte, reduceCtorEq, upd_ne, back_new (no_at), Nat.reduceAdd, Nat.reduceEqDiff, Nat.reduceMul, Nat.reduceSub, Nat.reduceLeDiff, Nat.reduceLT, Int.reduceToNat, Int.reduceLE, Int.reduceLT, Int.reduceEq, UInt8.reduceOfNat, pfr4_len h, pto4_len h]
  · simp only [go_sem, ↓reduceIte, reduceCtorEq, upd_ne, back_new (no_at), Nat.reduceAdd, Nat.reduceEqDiff, Nat.reduceMul, Nat.reduceSub, Nat.reduceLeDiff, Nat.reduceLT, Int.reduceToNat, Int.reduceLE, Int.reduceLT, Int.reduceEq, UInt8.reduceOfNat]
theorem q4_ps {s : List UInt8} : psl (pLV4 s) = some (pLV4 s) := by
  unfold pLV4
  split <;> simp only [go_sem, ↓reduceIte, reduceCtorEq, upd_ne, back_new (no_at), Nat.reduceAdd, Nat.reduceEqDiff, Nat.reduceMul, Nat.reduceSub, Nat.reduceLeDiff, Nat.reduceLT, Int.reduceToNat, Int.reduceLE, Int.reduceLT, Int.reduceEq, UInt8.reduceOfNat]
theorem q4_eq {s : List UInt8} : eqSh shIp4 (pLV4 s) (pLV4 s) = some true := by
  unfold pLV4
  split
  · rename_i h
    have h := pK4_zero.1 h
    exact eq_ip4 (pfr4_len h) (pto4_len h)
  · exact eq_ip4 rfl rfl
theorem q4_none {s : List UInt8} (h : ¬ pK4 s = 0) : pLV4 s = z4LV := by unfold pLV4; rw [if_neg h]
attribute [go_sem ↓] q4_ag q4_st q4_pl q4_fl q4_ps q4_eq
end Go.Ev

/- Layer 4: routes that are not used up. -/
namespace Go.Ev
set_option linter.unusedSimpArgs false
set_option linter.unusedVariables false
set_option maxRecDepth 4000
set_option maxHeartbeats 1000000
/-- A route that is not used up. -/
def open1 (e : Int × List UInt8) : Bool := decide (e.1 = 43) && (decide (1 < e.2.length) && decide (e.2[1]?.getD 0 ≠ 0))
def routedS (l : List (Int × List UInt8)) : Bool := l.any open1
theorem p_routed {g : Call} (l : List (Int × List UInt8)) (hl : l.length ≤ 9223372036854775806) : F_ip6_Routed g (extsLV l) = some (.bool (routedS l), none) := by
  unfold F_ip6_Routed extsLV
  (try simp only [guard_merge, or_merge, and_merge, or_pick, and_pick, guard_or, guard_and]); simp only [to_ob, ↓e_lenL, List.length_map]
  refine while_rule (fun n s => ∃ i : Nat, s = ([.bool false, .int .i64 (i : Int)], noSlots) ∧ i + n = l.length ∧ routedS (l.drop i) = routedS l) l.length ⟨0, rfl, by simp, by simp⟩ ?_
  rintro n s ⟨i, rfl, hi, hr⟩
  simp only [go_sem, ↓reduceIte, reduceCtorEq, upd_ne, back_new (no_at), Nat.reduceAdd, Nat.reduceEqDiff, Nat.reduceMul, Nat.reduceSub, Nat.reduceLeDiff, Nat.reduceLT, Int.reduceToNat, Int.reduceLE, Int.reduceLT, Int.reduceEq, UInt8.reduceOfNat]
  refine nxt_ite (fun h => ?_) (fun h => ?_)
  · have hlt : i < l.length := by omega
    obtain ⟨e, he⟩ : ∃ e, l[i]? = some e := ⟨l[i], by simp [hlt]⟩
    have hd : l.drop i = e :: l.drop (i + 1) := by
      rw [List.drop_eq_getElem_cons hlt]; congr 1; simpa [hlt] using he
    simp only [List.getElem?_map, Int.toNat_natCast, he, go_sem, ↓reduceIte, reduceCtorEq, upd_ne, back_new (no_at), Nat.reduceAdd, Nat.reduceEqDiff, Nat.reduceMul, Nat.reduceSub, Nat.reduceLeDiff, Nat.reduceLT, Int.reduceToNat, Int.reduceLE, Int.reduceLT, Int.reduceEq, UInt8.reduceOfNat]
    by_cases h1 : e.1 = 43 ∧ 1 < e.2.length
    · obtain ⟨h1, h2⟩ := h1
      have h2' : (1 : Int) < (e.2.length : Int) := by omega
      obtain ⟨c, hc⟩ : ∃ c, e.2[1]? = some c := ⟨e.2[1], by simp [h2]⟩
      simp only [h1, h2', hc, decide_true, go_sem, ↓reduceIte, reduceCtorEq, upd_ne, back_new (no_at), Nat.reduceAdd, Nat.reduceEqDiff, Nat.reduceMul, Nat.reduceSub, Nat.reduceLeDiff, Nat.reduceLT, Int.reduceToNat, Int.reduceLE, Int.reduceLT, Int.reduceEq, UInt8.reduceOfNat]
      refine nxt_ite (fun h3 => ?_) (fun h3 => ?_)
      · have : routedS l = true := by
          rw [← hr, hd]
          simp only [routedS, List.any_cons, open1, h1, h2, hc]
          have : c ≠ 0 := fun e => h3 (by rw [e]; rfl)
          simp [this]
        rw [this]
        simp only [Nxt, exIf, true_and, go_sem, ↓reduceIte, reduceCtorEq, upd_ne, back_new (no_at), Nat.reduceAdd, Nat.reduceEqDiff, Nat.reduceMul, Nat.reduceSub, Nat.reduceLeDiff, Nat.reduceLT, Int.reduceToNat, Int.reduceLE, Int.reduceLT, Int.reduceEq, UInt8.reduceOfNat]
      · refine ⟨n - 1, by omega, i + 1, ?_, by omega, ?_⟩
        · rw [wrap_id (by omega) (by omega)]
          rfl
        · rw [← hr, hd]
          have : c = 0 := by
            have : (c.toNat : Int) = 0 := by simpa using h3
            exact UInt8.toNat_inj.1 (by simpa using this)
          simp [routedS, open1, h1, hc, this]
    · have : (decide (e.1 = 43) && decide ((1 : Int) < (e.2.length : Int))) = false := by
        simp only [Bool.and_eq_false_iff, decide_eq_false_iff_not]
        by_cases h2 : e.1 = 43
        · exact .inr (fun h3 => h1 ⟨h2, by omega⟩)
        · exact .inl h2
      simp only [this, go_sem, ↓reduceIte, reduceCtorEq, upd_ne, back_new (no_at), Nat.reduceAdd, Nat.reduceEqDiff, Nat.reduceMul, Nat.reduceSub, Nat.reduceLeDiff, Nat.reduceLT, Int.reduceToNat, Int.reduceLE, Int.reduceLT, Int.reduceEq, UInt8.reduceOfNat]
      refine ⟨n - 1, by omega, i + 1, ?_, by omega, ?_⟩
      · rw [wrap_id (by omega) (by omega)]
        rfl
      · rw [← hr, hd]
        have : open1 e = false := by
          unfold open1
          by_cases h2 : e.1 = 43
          · have : ¬ 1 < e.2.length := fun h3 => h1 ⟨h2, h3⟩
            simp [this]
          · simp [h2]
        simp [routedS, this]
  · rw [List.drop_eq_nil_of_le (by omega)] at hr
    simp only [Nxt, exIf, true_and, go_sem, ↓reduceIte, reduceCtorEq, upd_ne, back_new (no_at), Nat.reduceAdd, Nat.reduceEqDiff, Nat.reduceMul, Nat.reduceSub, Nat.reduceLeDiff, Nat.reduceLT, Int.reduceToNat, Int.reduceLE, Int.reduceLT, Int.reduceEq, UInt8.reduceOfNat]
    rw [← hr]
    simp [routedS]
theorem r_routed {g : Call} (l : List (Int × List UInt8)) (hl : l.length ≤ 9223372036854775806) : F_interpreterref04_Routed g (extsLV l) = some (.bool (routedS l), none) := by
  unfold F_interpreterref04_Routed extsLV
  (try simp only [guard_merge, or_merge, and_merge, or_pick, and_pick, guard_or, guard_and]); simp only [to_ob, ↓e_lenL, List.length_map]
  refine while_rule (fun n s => ∃ i : Nat, s = ([.bool false, .int .i64 (i : Int)], noSlots) ∧ i + n = l.length ∧ routedS (l.drop i) = routedS l) l.length ⟨0, rfl, by simp, by simp⟩ ?_
  rintro n s ⟨i, rfl, hi, hr⟩
  simp only [go_sem, ↓reduceIte, reduceCtorEq, upd_ne, back_new (no_at), Nat.reduceAdd, Nat.reduceEqDiff, Nat.reduceMul, Nat.reduceSub, Nat.reduceLeDiff, Nat.reduceLT, Int.reduceToNat, Int.reduceLE, Int.reduceLT, Int.reduceEq, UInt8.reduceOfNat]
  refine nxt_ite (fun h => ?_) (fun h => ?_)
  · have hlt : i < l.length := by omega
    obtain ⟨e, he⟩ : ∃ e, l[i]? = some e := ⟨l[i], by simp [hlt]⟩
    have hd : l.drop i = e :: l.drop (i + 1) := by
      rw [List.drop_eq_getElem_cons hlt]; congr 1; simpa [hlt] using he
    simp only [List.getElem?_map, Int.toNat_natCast, he, go_sem, ↓reduceIte, reduceCtorEq, upd_ne, back_new (no_at), Nat.reduceAdd, Nat.reduceEqDiff, Nat.reduceMul, Nat.reduceSub, Nat.reduceLeDiff, Nat.reduceLT, Int.reduceToNat, Int.reduceLE, Int.reduceLT, Int.reduceEq, UInt8.reduceOfNat]
    by_cases h1 : e.1 = 43 ∧ 1 < e.2.length
    · obtain ⟨h1, h2⟩ := h1
      have h2' : (2 : Int) ≤ (e.2.length : Int) := by omega
      obtain ⟨c, hc⟩ : ∃ c, e.2[1]? = some c := ⟨e.2[1], by simp [h2]⟩
      simp only [h1, h2', hc, decide_true, go_sem, ↓reduceIte, reduceCtorEq, upd_ne, back_new (no_at), Nat.reduceAdd, Nat.reduceEqDiff, Nat.reduceMul, Nat.reduceSub, Nat.reduceLeDiff, Nat.reduceLT, Int.reduceToNat, Int.reduceLE, Int.reduceLT, Int.reduceEq, UInt8.reduceOfNat]
      refine nxt_ite (fun h3 => ?_) (fun h3 => ?_)
      · have : routedS l = true := by
          rw [← hr, hd]
          simp only [routedS, List.any_cons, open1, h1, h2, hc]
          have : c ≠ 0 := fun e => h3 (by rw [e]; rfl)
          simp [this]
        rw [this]
        simp only [Nxt, exIf, true_and, go_sem, ↓reduceIte, reduceCtorEq, upd_ne, back_new (no_at), Nat.reduceAdd, Nat.reduceEqDiff, Nat.reduceMul, Nat.reduceSub, Nat.reduceLeDiff, Nat.reduceLT, Int.reduceToNat, Int.reduceLE, Int.reduceLT, Int.reduceEq, UInt8.reduceOfNat]
      · refine ⟨n - 1, by omega, i + 1, ?_, by omega, ?_⟩
        · rw [wrap_id (by omega) (by omega)]
          rfl
        · rw [← hr, hd]
          have : c = 0 := by
            have : (c.toNat : Int) = 0 := by simpa using h3
            exact UInt8.toNat_inj.1 (by simpa using this)
          simp [routedS, open1, h1, hc, this]
    · have : (decide (e.1 = 43) && decide ((2 : Int) ≤ (e.2.length : Int))) = false := by
        simp only [Bool.and_eq_false_iff, decide_eq_false_iff_not]
        by_cases h2 : e.1 = 43
        · exact .inr (fun h3 => h1 ⟨h2, by omega⟩)
        · exact .inl h2
      simp only [this, go_sem, ↓reduceIte, reduceCtorEq, upd_ne, back_new (no_at), Nat.reduceAdd, Nat.reduceEqDiff, Nat.reduceMul, Nat.reduceSub, Nat.reduceLeDiff, Nat.reduceLT, Int.reduceToNat, Int.reduceLE, Int.reduceLT, Int.reduceEq, UInt8.reduceOfNat]
      refine ⟨n - 1, by omega, i + 1, ?_, by omega, ?_⟩
      · rw [wrap_id (by omega) (by omega)]
        rfl
      · rw [← hr, hd]
        have : open1 e = false := by
          unfold open1
          by_cases h2 : e.1 = 43
          · have : ¬ 1 < e.2.length := fun h3 => h1 ⟨h2, h3⟩
            simp [this]
          · simp [h2]
        simp [routedS, this]
  · rw [List.drop_eq_nil_of_le (by omega)] at hr
    simp only [Nxt, exIf, true_and, go_sem, ↓reduceIte, reduceCtorEq, upd_ne, back_new (no_at), Nat.reduceAdd, Nat.reduceEqDiff, Nat.reduceMul, Nat.reduceSub, Nat.reduceLeDiff, Nat.reduceLT, Int.reduceToNat, Int.reduceLE, Int.reduceLT, Int.reduceEq, UInt8.reduceOfNat]
    rw [← hr]
    simp [routedS]
section
variable {S : Sys} (hS : Has S) (n : Nat)
include hS
theorem ev_routed (l : List (Int × List UInt8)) (hl : l.length ≤ 9223372036854775806) : S.ev (n + 1) id_ip6_Routed [extsLV l] none = some (.bool (routedS l), none) := by
  rw [Sys.step hS.h_ip6_Routed, F_ip6_Routed_eq, p_routed l hl]
theorem ev_rrouted (l : List (Int × List UInt8)) (hl : l.length ≤ 9223372036854775806) : S.ev (n + 1) id_interpreterref04_Routed [extsLV l] none = some (.bool (routedS l), none) := by
  rw [Sys.step hS.h_interpreterref04_Routed, F_interpreterref04_Routed_eq, r_routed l hl]
end
end Go.Ev

/- Layer 4: chains of extensions. -/
namespace Go.Ev
set_option linter.unusedSimpArgs false
set_option linter.unusedVariables false
set_option maxRecDepth 4000
set_option maxHeartbeats 4000000
abbrev ChR := Int × List (Int × List UInt8) × Int × List UInt8
abbrev isE (k : Int) : Prop := (k = 0 ∨ k = 43) ∨ k = 60
def sz6 (s : List UInt8) : Nat := 8 * (1 + bAt s 1)
def chC : Nat → Bool → Int → List UInt8 → ChR
  | 0, first, next, s => if isE next then (if next = 0 ∧ first = false then (8, [], 0, []) else (3, [], 0, [])) else (0, [], next, s)
  | k + 1, first, next, s =>
    if isE next then
      if next = 0 ∧ first = false then (8, [], 0, [])
      else if s.length < sz6 s then (7, [], 0, [])
      else
        let r := chC k false ((bAt s 0 : Nat) : Int) (s.drop (sz6 s))
        if r.1 = 0 then (0, (next, (s.drop 2).take (sz6 s - 2)) :: r.2.1, r.2.2) else r
    else (0, [], next, s)
/-- What a chain is, behind those that are known. -/
def chP (acc : List (Int × List UInt8)) (r : ChR) : ChR := if r.1 = 0 then (0, acc ++ r.2.1, r.2.2) else r
theorem chC_err : ∀ (k : Nat) (f : Bool) (next : Int) (s : List UInt8), (chC k f next s).1 ≠ 0 → chC k f next s = ((chC k f next s).1, [], 0, [])
  | 0, f, next, s => by
    unfold chC
    split
    · split <;> simp
    · simp
  | k + 1, f, next, s => by
    unfold chC
    split
    · split
      · simp
      · split
        · simp
        · simp only
          split
          · simp
          · rename_i h
            intro _
            exact chC_err k false _ _ h
    · simp
theorem chP_nil (k : Nat) (f : Bool) (next : Int) (s : List UInt8) : chP [] (chC k f next s) = chC k f next s := by
  unfold chP
  split
  · rename_i h
    rw [List.nil_append, ← h]
  · rfl
theorem chP_step {acc : List (Int × List UInt8)} {k : Nat} {f : Bool} {next : Int} {s : List UInt8} (h1 : isE next) (h2 : ¬ (next = 0 ∧ f = false)) (h3 : ¬ s.length < sz6 s) :
    chP acc (chC (k + 1) f next s) = chP (acc ++ [(next, (s.drop 2).take (sz6 s - 2))]) (chC k false ((bAt s 0 : Nat) : Int) (s.drop (sz6 s))) := by
  rw [chC, if_pos h1, if_neg h2, if_neg h3]
  generalize chC k false ((bAt s 0 : Nat) : Int) (s.drop (sz6 s)) = r
  unfold chP
  by_cases h : r.1 = 0
  · simp only [h, if_true, List.append_assoc, List.cons_append, List.nil_append]
  · simp only [h, if_false]
def chLV (r : ChR) : LV := .tup [extsLV r.2.1, .int .i64 r.2.2.1, .str r.2.2.2, fE r.1]
def chLV' (r : ChR) : LV := .tup [extsLV r.2.1, .int .i64 r.2.2.1, .str r.2.2.2, .int .i64 r.1]
section
variable {S : Sys} (hS : Has S) (n : Nat)
include hS
theorem ev_fault6 (c : Int) : S.ev (n + 1) id_ip6_fault [.int .i64 c] none = some (faultLV c, none) := by
  rw [Sys.step hS.h_ip6_fault, F_ip6_fault_eq]
  unfold F_ip6_fault
  simp only [to_ob]
  simp only [go_sem, ↓reduceIte, reduceCtorEq, upd_ne, back_new (no_at), Nat.reduceAdd, Nat.reduceEqDiff, Nat.reduceMul, Nat.reduceSub, Nat.reduceLeDiff, Nat.reduceLT, Int.reduceToNat, Int.reduceLE, Int.reduceLT, Int.reduceEq, UInt8.reduceOfNat]
theorem ev_extends (k : Int) : S.ev (n + 1) id_ip6_extends [.int .i64 k] none = some (.bool (decide (isE k)), none) := by
  rw [Sys.step hS.h_ip6_extends, F_ip6_extends_eq]
  unfold F_ip6_extends
  (try simp only [guard_merge, or_merge, and_merge, or_pick, and_pick, guard_or, guard_and]); simp only [to_ob]
  by_cases h1 : k = 0 <;> by_cases h2 : k = 43 <;> by_cases h3 : k = 60 <;> simp only [go_sem, ↓reduceIte, reduceCtorEq, upd_ne, back_new (no_at), Nat.reduceAdd, Nat.reduceEqDiff, Nat.reduceMul, Nat.reduceSub, Nat.reduceLeDiff, Nat.reduceLT, Int.reduceToNat, Int.reduceLE, Int.reduceLT, Int.reduceEq, UInt8.reduceOfNat, h1, h2, h3] <;> first | rfl | simp [h1, h2, h3]
theorem ev_chain6 (next : Int) (s : List UInt8) (hs : s.length ≤ 140737488351232) : S.ev (n + 2) id_ip6_Chain [.int .i64 next, .str s] none = some (chLV (chC 8 true next s), none) := by
  rw [Sys.step hS.h_ip6_Chain, F_ip6_Chain_eq]
  unfold F_ip6_Chain
  have hx := ev_extends hS n
  have hfa := ev_fault6 hS n
  (try simp only [guard_merge, or_merge, and_merge, or_pick, and_pick, guard_or, guard_and]); simp only [to_ob]
  refine while_rule (fun k q => ∃ (acc : List (Int × List UInt8)) (next' : Int) (t : List UInt8), q = ([tagL 49 (acc.map extLV), .int .i64 0, .str [], .nili, .int .i64 next', .str t], tagS 49 2 (acc.map extLV)) ∧ acc.length + k = 8 ∧ t.length ≤ s.length ∧ chP acc (chC k acc.isEmpty next' t) = chC 8 true next s) 8 ⟨[], next, s, rfl, rfl, Nat.le_refl _, chP_nil _ _ _ _⟩ ?_
  rintro k q ⟨acc, next', t, rfl, hk, ht, hr⟩
  by_cases c1 : isE next'
  · have c1' : decide (isE next') = true := decide_eq_true c1
    by_cases c2 : next' = 0 ∧ acc.isEmpty = false
    · have c2' := c2
      obtain ⟨rfl, c2x⟩ := c2'
      have c2a : 0 < (acc.length : Int) := by
        cases acc with
        | nil => simp at c2x
        | cons x l => simp only [List.length_cons]; omega
      have hr : chC 8 true next s = (8, [], 0, []) := by
        rw [← hr]
        cases k with
        | zero => rw [chC, if_pos c1, if_pos c2]; rfl
        | succ k => rw [chC, if_pos c1, if_pos c2]; rfl
      rw [hr]
      by_cases c3 : 2 ≤ t.length
      · have c3' : 2 ≤ (t.length : Int) := by omega
        have g1 := get_def (s := t) (i := 1) (by omega)
        simp only [go_sem, ↓reduceIte, reduceCtorEq, upd_ne, back_new (no_at), Nat.reduceAdd, Nat.reduceEqDiff, Nat.reduceMul, Nat.reduceSub, Nat.reduceLeDiff, Nat.reduceLT, Int.reduceToNat, Int.reduceLE, Int.reduceLT, Int.reduceEq, UInt8.reduceOfNat, List.getElem?_map, Int.toNat_natCast, hx, hfa, c1', c2a, c3', g1, List.length_map, Nxt, exIf, chLV, fE]
        try rfl
      · have c3' : ¬ 2 ≤ (t.length : Int) := by omega
        simp only [go_sem, ↓reduceIte, reduceCtorEq, upd_ne, back_new (no_at), Nat.reduceAdd, Nat.reduceEqDiff, Nat.reduceMul, Nat.reduceSub, Nat.reduceLeDiff, Nat.reduceLT, Int.reduceToNat, Int.reduceLE, Int.reduceLT, Int.reduceEq, UInt8.reduceOfNat, List.getElem?_map, Int.toNat_natCast, hx, hfa, c1', c2a, c3', List.length_map, Nxt, exIf, chLV, fE]
        try rfl
    · have c2b : ¬ (next' = 0 ∧ 0 < (acc.length : Int)) := by
        rintro ⟨h1, h2⟩
        apply c2
        refine ⟨h1, ?_⟩
        cases acc with
        | nil => simp at h2
        | cons x l => rfl
      have hd : (andK (.bool (decide (next' = 0))) (some (.bool (decide (0 < (acc.length : Int)))))) = some (.bool false) := by
        by_cases h : next' = 0
        · have : ¬ 0 < (acc.length : Int) := fun q => c2b ⟨h, q⟩
          rw [decide_eq_true h, decide_eq_false this]; rfl
        · rw [decide_eq_false h]; rfl
      cases k with
      | zero =>
        have c4 : 8 ≤ (acc.length : Int) := by omega
        have hr : chC 8 true next s = (3, [], 0, []) := by
          rw [← hr, chC, if_pos c1, if_neg c2]; rfl
        rw [hr]
        by_cases c3 : 2 ≤ t.length
        · have c3' : 2 ≤ (t.length : Int) := by omega
          have g1 := get_def (s := t) (i := 1) (by omega)
          simp only [go_sem, ↓reduceIte, reduceCtorEq, upd_ne, back_new (no_at), Nat.reduceAdd, Nat.reduceEqDiff, Nat.reduceMul, Nat.reduceSub, Nat.reduceLeDiff, Nat.reduceLT, Int.reduceToNat, Int.reduceLE, Int.reduceLT, Int.reduceEq, UInt8.reduceOfNat, List.getElem?_map, Int.toNat_natCast, hx, hfa, c1', hd, c4, c3', g1, List.length_map, Nxt, exIf, chLV, fE]
          try rfl
        · have c3' : ¬ 2 ≤ (t.length : Int) := by omega
          simp only [go_sem, ↓reduceIte, reduceCtorEq, upd_ne, back_new (no_at), Nat.reduceAdd, Nat.reduceEqDiff, Nat.reduceMul, Nat.reduceSub, Nat.reduceLeDiff, Nat.reduceLT, Int.reduceToNat, Int.reduceLE, Int.reduceLT, Int.reduceEq, UInt8.reduceOfNat, List.getElem?_map, Int.toNat_natCast, hx, hfa, c1', hd, c4, c3', List.length_map, Nxt, exIf, chLV, fE]
          try rfl
      | succ k =>
        have c4 : ¬ 8 ≤ (acc.length : Int) := by omega
        by_cases c3 : 2 ≤ t.length
        · have c3' : 2 ≤ (t.length : Int) := by omega
          have g0 := get_def (s := t) (i := 0) (by omega)
          have g1 := get_def (s := t) (i := 1) (by omega)
          have hb1 := bAt_le t 1
          have hb0 := bAt_le t 0
          have e1 : IntKind.i64.wrap ((t.getD 1 0).toNat : Int) = ((bAt t 1 : Nat) : Int) := wrap_id (by omega) (by unfold bAt at hb1; omega)
          have e0 : IntKind.i64.wrap ((t.getD 0 0).toNat : Int) = ((bAt t 0 : Nat) : Int) := wrap_id (by omega) (by unfold bAt at hb0; omega)
          have e2 : IntKind.i64.wrap (8 + IntKind.i64.wrap (((bAt t 1 : Nat) : Int) * 8)) = ((sz6 t : Nat) : Int) := by
            rw [wrap_id (n := ((bAt t 1 : Nat) : Int) * 8) (by omega) (by omega), wrap_id (by omega) (by omega)]; unfold sz6; omega
          by_cases c5 : t.length < sz6 t
          · have c5' : (t.length : Int) < ((sz6 t : Nat) : Int) := by omega
            have hr : chC 8 true next s = (7, [], 0, []) := by
              rw [← hr, chC, if_pos c1, if_neg c2, if_pos c5]; rfl
            rw [hr]
            simp only [go_sem, ↓reduceIte, reduceCtorEq, upd_ne, back_new (no_at), Nat.reduceAdd, Nat.reduceEqDiff, Nat.reduceMul, Nat.reduceSub, Nat.reduceLeDiff, Nat.reduceLT, Int.reduceToNat, Int.reduceLE, Int.reduceLT, Int.reduceEq, UInt8.reduceOfNat, List.getElem?_map, Int.toNat_natCast, hx, hfa, c1', hd, c4, c3', g1, byteLV, e1, e2, c5', List.length_map, Nxt, exIf, chLV, fE]
            try rfl
          · have c5' : ¬ (t.length : Int) < ((sz6 t : Nat) : Int) := by omega
            have l1 : sz6 t ≤ t.length := by omega
            have l2 : 2 ≤ sz6 t := by unfold sz6; omega
            have ha := wApp_tag (t := 49) (by' := 24) (ext_flat acc) (show flatLen (extLV (next', (t.drop 2).take (sz6 t - 2))) = 2 by simp [flatLen, sumLen]) (by simp; omega)
            have hm : acc.map extLV ++ [extLV (next', (t.drop 2).take (sz6 t - 2))] = (acc ++ [(next', (t.drop 2).take (sz6 t - 2))]).map extLV := by simp
            rw [hm] at ha
            simp only [go_sem, ↓reduceIte, reduceCtorEq, upd_ne, back_new (no_at), Nat.reduceAdd, Nat.reduceEqDiff, Nat.reduceMul, Nat.reduceSub, Nat.reduceLeDiff, Nat.reduceLT, Int.reduceToNat, Int.reduceLE, Int.reduceLT, Int.reduceEq, UInt8.reduceOfNat, List.getElem?_map, Int.toNat_natCast, hx, hfa, c1', hd, c4, c3', g0, g1, byteLV, e0, e1, e2, c5', l1, l2, ha, List.length_map, Nat.le_refl]
            refine ⟨k, by omega, acc ++ [(next', (t.drop 2).take (sz6 t - 2))], ((bAt t 0 : Nat) : Int), t.drop (sz6 t), ?_, by simp; omega, by simp; omega, ?_⟩
            · rfl
            · rw [← hr, chP_step c1 c2 c5]
              congr 2
              cases acc <;> rfl
        · have c3' : ¬ 2 ≤ (t.length : Int) := by omega
          have c5 : t.length < sz6 t := by unfold sz6; omega
          have c5' : (t.length : Int) < 8 := by omega
          have hr : chC 8 true next s = (7, [], 0, []) := by
            rw [← hr, chC, if_pos c1, if_neg c2, if_pos c5]; rfl
          rw [hr]
          simp only [go_sem, ↓reduceIte, reduceCtorEq, upd_ne, back_new (no_at), Nat.reduceAdd, Nat.reduceEqDiff, Nat.reduceMul, Nat.reduceSub, Nat.reduceLeDiff, Nat.reduceLT, Int.reduceToNat, Int.reduceLE, Int.reduceLT, Int.reduceEq, UInt8.reduceOfNat, List.getElem?_map, Int.toNat_natCast, hx, hfa, c1', hd, c4, c3', c5', List.length_map, Nxt, exIf, chLV, fE]
          try rfl
  · have c1' : decide (isE next') = false := decide_eq_false c1
    have hr : chC 8 true next s = (0, acc, next', t) := by
      rw [← hr]
      cases k with
      | zero => rw [chC, if_neg c1]; simp [chP]
      | succ k => rw [chC, if_neg c1]; simp [chP]
    rw [hr]
    simp only [go_sem, ↓reduceIte, reduceCtorEq, upd_ne, back_new (no_at), Nat.reduceAdd, Nat.reduceEqDiff, Nat.reduceMul, Nat.reduceSub, Nat.reduceLeDiff, Nat.reduceLT, Int.reduceToNat, Int.reduceLE, Int.reduceLT, Int.reduceEq, UInt8.reduceOfNat, List.getElem?_map, Int.toNat_natCast, hx, c1', Nxt, exIf, chLV, fE]
    try rfl
end
end Go.Ev

/- Layer 4: bytes parsed. -/
namespace Go.Ev
set_option linter.unusedSimpArgs false
set_option linter.unusedVariables false
set_option maxRecDepth 4000
set_option maxHeartbeats 8000000
abbrev y16 : List UInt8 := [0, 0, 0, 0, 0, 0, 0, 0, 0, 0, 0, 0, 0, 0, 0, 0]
abbrev z6LV : LV := ip6LV 0 0 0 y16 y16 (.lst none []) false 0 0 false 0 []
def k6 (s : List UInt8) : ChR := chC 8 true ((bAt s 6 : Nat) : Int) ((s.drop 40).take (wAt s 4))
def okF6 (mo : Bool) (at' : Nat) (da : List UInt8) : Prop := (mo = true → da.length ≠ 0 ∧ da.length % 8 = 0) ∧ at' + da.length ≤ 65535
instance (mo : Bool) (at' : Nat) (da : List UInt8) : Decidable (okF6 mo at' da) := by unfold okF6; infer_instance
def fa6 (r : List UInt8) : Nat := wAt r 2 / 8 * 8
def fm6 (r : List UInt8) : Bool := decide (wAt r 2 % 2 = 1)
def fi6 (r : List UInt8) : Nat := numN ((r.drop 4).take 4)
def kF6 (r : List UInt8) : Int := if r.length < 8 then 7 else if okF6 (fm6 r) (fa6 r) (r.drop 8) then 0 else 8
def kR6 (k : ChR) : Int := if k.1 ≠ 0 then k.1 else if k.2.2.1 ≠ 44 then 0 else kF6 k.2.2.2
def pK6 (s : List UInt8) : Int :=
  if s.length < 40 then 7 else if bAt s 0 / 16 ≠ 6 then 8 else if s.length < 40 + wAt s 4 then 7 else kR6 (k6 s)
def pcl6 (s : List UInt8) : Int := ((numN (s.take 4) / 1048576 % 256 : Nat) : Int)
def pfl6 (s : List UInt8) : Int := ((numN (s.take 4) % 1048576 : Nat) : Int)
def pfr6 (s : List UInt8) : List UInt8 := (s.drop 8).take 16
def pto6 (s : List UInt8) : List UInt8 := (s.drop 24).take 16
def mk6 (s : List UInt8) (k : ChR) : LV :=
  if k.2.2.1 = 44 then ip6LV (pcl6 s) (pfl6 s) (bAt s 7 : Nat) (pfr6 s) (pto6 s) (extsLV k.2.1) true (fi6 k.2.2.2 : Nat) (fa6 k.2.2.2 : Nat) (fm6 k.2.2.2) (bAt k.2.2.2 0 : Nat) (k.2.2.2.drop 8)
  else ip6LV (pcl6 s) (pfl6 s) (bAt s 7 : Nat) (pfr6 s) (pto6 s) (extsLV k.2.1) false 0 0 false k.2.2.1 k.2.2.2
def pLV6 (s : List UInt8) : LV := if pK6 s = 0 then mk6 s (k6 s) else z6LV

theorem wc3 {sl : Slots} {t g : Nat} {cl fl ho : Int} {fr to : List UInt8} {ex : LV} {fg : Bool} {id at' : Int} {mo : Bool} {pt : Int} {da s : List UInt8} (hf : fr.length = 16) (hs : 16 ≤ s.length) :
    wCopy (upd sl t (.obj g (ip6LV cl fl ho fr to ex fg id at' mo pt da))) (.arr t g [3] 3 0 16) (.str s) = some (.int .i64 16, upd (upd sl t (.obj g (ip6LV cl fl ho fr to ex fg id at' mo pt da))) t (.obj g (ip6LV cl fl ho (s.take 16) to ex fg id at' mo pt da))) := by
  have h1 : min s.length 16 = 16 := by omega
  have h2 : fr.drop 16 = [] := List.drop_eq_nil_of_le (by omega)
  have hg : getPath (ip6LV cl fl ho fr to ex fg id at' mo pt da) [3] = some (.bytes fr, 3) := by simp only [go_sem, ↓reduceIte, reduceCtorEq, upd_ne, back_new (no_at), Nat.reduceAdd, Nat.reduceEqDiff, Nat.reduceMul, Nat.reduceSub, Nat.reduceLeDiff, Nat.reduceLT, Int.reduceToNat, Int.reduceLE, Int.reduceLT, Int.reduceEq, UInt8.reduceOfNat]
  have hp : setPath (ip6LV cl fl ho fr to ex fg id at' mo pt da) [3] (.bytes (s.take 16)) = some (ip6LV cl fl ho (s.take 16) to ex fg id at' mo pt da) := by simp only [go_sem, ↓reduceIte, reduceCtorEq, upd_ne, back_new (no_at), Nat.reduceAdd, Nat.reduceEqDiff, Nat.reduceMul, Nat.reduceSub, Nat.reduceLeDiff, Nat.reduceLT, Int.reduceToNat, Int.reduceLE, Int.reduceLT, Int.reduceEq, UInt8.reduceOfNat]
  unfold wCopy
  simp only [upd_same, if_true, hg]
  rw [if_pos ⟨trivial, by omega⟩]
  simp only [h1, Option.bind_some, List.take_zero, List.nil_append, Nat.zero_add, h2, List.append_nil, hp, Option.map_some]
  rfl
theorem wc4 {sl : Slots} {t g : Nat} {cl fl ho : Int} {fr to : List UInt8} {ex : LV} {fg : Bool} {id at' : Int} {mo : Bool} {pt : Int} {da s : List UInt8} (hf : fr.length = 16) (ht : to.length = 16) (hs : 16 ≤ s.length) :
    wCopy (upd sl t (.obj g (ip6LV cl fl ho fr to ex fg id at' mo pt da))) (.arr t g [4] 19 0 16) (.str s) = some (.int .i64 16, upd (upd sl t (.obj g (ip6LV cl fl ho fr to ex fg id at' mo pt da))) t (.obj g (ip6LV cl fl ho fr (s.take 16) ex fg id at' mo pt da))) := by
  have h1 : min s.length 16 = 16 := by omega
  have h2 : to.drop 16 = [] := List.drop_eq_nil_of_le (by omega)
  have hg : getPath (ip6LV cl fl ho fr to ex fg id at' mo pt da) [4] = some (.bytes to, 19) := by simp only [go_sem, ↓reduceIte, reduceCtorEq, upd_ne, back_new (no_at), Nat.reduceAdd, Nat.reduceEqDiff, Nat.reduceMul, Nat.reduceSub, Nat.reduceLeDiff, Nat.reduceLT, Int.reduceToNat, Int.reduceLE, Int.reduceLT, Int.reduceEq, UInt8.reduceOfNat, hf]
  have hp : setPath (ip6LV cl fl ho fr to ex fg id at' mo pt da) [4] (.bytes (s.take 16)) = some (ip6LV cl fl ho fr (s.take 16) ex fg id at' mo pt da) := by simp only [go_sem, ↓reduceIte, reduceCtorEq, upd_ne, back_new (no_at), Nat.reduceAdd, Nat.reduceEqDiff, Nat.reduceMul, Nat.reduceSub, Nat.reduceLeDiff, Nat.reduceLT, Int.reduceToNat, Int.reduceLE, Int.reduceLT, Int.reduceEq, UInt8.reduceOfNat]
  unfold wCopy
  simp only [upd_same, if_true, hg]
  rw [if_pos ⟨trivial, by omega⟩]
  simp only [h1, Option.bind_some, List.take_zero, List.nil_append, Nat.zero_add, h2, List.append_nil, hp, Option.map_some]
  rfl
theorem andNot7 (x : Nat) (h : x ≤ 65535) : bitsOf .andNot .i64 (x : Int) 7 = ((x / 8 * 8 : Nat) : Int) := by
  rw [show (7 : Int) = ((7 : Nat) : Int) from rfl]
  unfold bitsOf
  rw [ofInt_nat, ofInt_nat]
  simp only [BitVec.toNat_and, BitVec.toNat_not, BitVec.toNat_ofNat]
  have e : x % 2 ^ IntKind.i64.bits &&& (2 ^ IntKind.i64.bits - 1 - 7 % 2 ^ IntKind.i64.bits) = x / 8 * 8 := by
    rw [show IntKind.i64.bits = 64 from rfl, Nat.mod_eq_of_lt (by omega), show 2 ^ 64 - 1 - 7 % 2 ^ 64 = (2 ^ 61 - 1) * 2 ^ 3 by decide]
    apply Nat.eq_of_testBit_eq
    intro i
    rw [Nat.testBit_and, Nat.testBit_mul_two_pow, Nat.testBit_two_pow_sub_one, show x / 8 * 8 = (x / 2 ^ 3) * 2 ^ 3 from rfl, Nat.testBit_mul_two_pow, Nat.testBit_div_two_pow]
    by_cases h3 : 3 ≤ i
    · by_cases h4 : i - 3 < 61
      · simp [h3, h4, show i - 3 + 3 = i by omega]
      · have h5 : x.testBit i = false := Nat.testBit_lt_two_pow (by have : 2 ^ 64 ≤ 2 ^ i := Nat.pow_le_pow_right (by decide) (by omega)
                                                                    omega)
        simp [h3, h4, h5, show i - 3 + 3 = i by omega]
    · simp [h3]
  rw [e]
  exact wrap_id (by omega) (by omega)
theorem wrap_u32 {x : Nat} (h : x < 4294967296) : IntKind.u32.wrap (x : Int) = (x : Int) := by
  simp only [IntKind.wrap, IntKind.bits, IntKind.signed]
  simp
  omega
section
variable {S : Sys} (hS : Has S) (n : Nat)
include hS
theorem ev_pieced {cl fl ho : Int} {fr to : List UInt8} {ex : List LV} {fg : Bool} {id at' : Int} {mo : Bool} {pt : Int} {da : List UInt8} (hfr : fr.length = 16) (hto : to.length = 16) :
    S.ev (n + 1) id_ip6_pieced [ip6LV cl fl ho fr to (.lst none ex) fg id at' mo pt da] none = some (.bool (decide (mo = true → da.length ≠ 0 ∧ da.length % 8 = 0)), none) := by
  rw [Sys.step hS.h_ip6_pieced, F_ip6_pieced_eq]
  unfold F_ip6_pieced
  (try simp only [guard_merge, or_merge, and_merge, or_pick, and_pick, guard_or, guard_and]); simp only [to_ob]
  have e2 : Int.tmod (da.length : Int) 8 = ((da.length % 8 : Nat) : Int) := rfl
  cases mo
  · simp only [go_sem, ↓reduceIte, reduceCtorEq, upd_ne, back_new (no_at), Nat.reduceAdd, Nat.reduceEqDiff, Nat.reduceMul, Nat.reduceSub, Nat.reduceLeDiff, Nat.reduceLT, Int.reduceToNat, Int.reduceLE, Int.reduceLT, Int.reduceEq, UInt8.reduceOfNat, hfr, hto, false_implies]
  · by_cases k3 : da = []
    · subst k3
      simp only [go_sem, ↓reduceIte, reduceCtorEq, upd_ne, back_new (no_at), Nat.reduceAdd, Nat.reduceEqDiff, Nat.reduceMul, Nat.reduceSub, Nat.reduceLeDiff, Nat.reduceLT, Int.reduceToNat, Int.reduceLE, Int.reduceLT, Int.reduceEq, UInt8.reduceOfNat, hfr, hto, true_implies]
    · have k3' : ¬ da.length = 0 := fun h => k3 (List.length_eq_zero_iff.1 h)
      by_cases k4 : da.length % 8 = 0
      · have k4' : ((da.length % 8 : Nat) : Int) = 0 := by omega
        simp only [go_sem, ↓reduceIte, reduceCtorEq, upd_ne, back_new (no_at), Nat.reduceAdd, Nat.reduceEqDiff, Nat.reduceMul, Nat.reduceSub, Nat.reduceLeDiff, Nat.reduceLT, Int.reduceToNat, Int.reduceLE, Int.reduceLT, Int.reduceEq, UInt8.reduceOfNat, hfr, hto, k3, k3', k4, k4', e2, true_implies]
      · have k4' : ¬ ((da.length % 8 : Nat) : Int) = 0 := by omega
        simp only [go_sem, ↓reduceIte, reduceCtorEq, upd_ne, back_new (no_at), Nat.reduceAdd, Nat.reduceEqDiff, Nat.reduceMul, Nat.reduceSub, Nat.reduceLeDiff, Nat.reduceLT, Int.reduceToNat, Int.reduceLE, Int.reduceLT, Int.reduceEq, UInt8.reduceOfNat, hfr, hto, k3, k3', k4, k4', e2, true_implies]
theorem ev_parse6 (s : List UInt8) (hs : s.length ≤ 140737488351232) : S.ev (n + 4) id_ip6_Parse [.str s] none = some (.tup [pLV6 s, fE (pK6 s)], none) := by
  rw [Sys.step hS.h_ip6_Parse, F_ip6_Parse_eq]
  unfold F_ip6_Parse
  have hfa := ev_fault6 hS (n + 2)
  (try simp only [guard_merge, or_merge, and_merge, or_pick, and_pick, guard_or, guard_and]); simp only [to_ob]
  unfold pLV6 pK6
  by_cases c1 : s.length < 40
  · have c1' : (s.length : Int) < 40 := by omega
    simp only [go_sem, ↓reduceIte, reduceCtorEq, upd_ne, back_new (no_at), Nat.reduceAdd, Nat.reduceEqDiff, Nat.reduceMul, Nat.reduceSub, Nat.reduceLeDiff, Nat.reduceLT, Int.reduceToNat, Int.reduceLE, Int.reduceLT, Int.reduceEq, UInt8.reduceOfNat, c1, c1', hfa, fE]
  · have c1' : ¬ (s.length : Int) < 40 := by omega
    have g0 := get_def (s := s) (i := 0) (by omega)
    have hb0 := bAt_le s 0
    have e4 : Int.fdiv ((s.getD 0 0).toNat : Int) (2 ^ min 4 8) = ((bAt s 0 / 16 : Nat) : Int) := by
      rw [show min 4 8 = 4 from rfl, Int.fdiv_eq_ediv_of_nonneg _ (by decide)]; rfl
    by_cases c2 : bAt s 0 / 16 ≠ 6
    · have c2' : ¬ ((bAt s 0 / 16 : Nat) : Int) = 6 := by omega
      simp only [go_sem, ↓reduceIte, reduceCtorEq, upd_ne, back_new (no_at), Nat.reduceAdd, Nat.reduceEqDiff, Nat.reduceMul, Nat.reduceSub, Nat.reduceLeDiff, Nat.reduceLT, Int.reduceToNat, Int.reduceLE, Int.reduceLT, Int.reduceEq, UInt8.reduceOfNat, List.getElem?_map, Int.toNat_natCast, c1, c1', c2, c2', hfa, fE, g0, byteLV, e4]
    · have c2' : ((bAt s 0 / 16 : Nat) : Int) = 6 := by omega
      have g4 := get_def (s := s) (i := 4) (by omega)
      have g5 := get_def (s := s) (i := 5) (by omega)
      have g6 := get_def (s := s) (i := 6) (by omega)
      have g7 := get_def (s := s) (i := 7) (by omega)
      have hb4 := (s.getD 4 0).toNat_lt
      have hb5 := (s.getD 5 0).toNat_lt
      have hb6 := bAt_le s 6
      have hb7 := bAt_le s 7
      have hw4 := wAt_le s 4
      have q1 : IntKind.i64.wrap ((s.getD 4 0).toNat : Int) = ((s.getD 4 0).toNat : Int) := wrap_id (by omega) (by omega)
      have q2 : IntKind.i64.wrap ((s.getD 5 0).toNat : Int) = ((s.getD 5 0).toNat : Int) := wrap_id (by omega) (by omega)
      have q3 : IntKind.i64.wrap (((s.getD 4 0).toNat : Int) * 2 ^ min 8 64) = (((s.getD 4 0).toNat * 256 : Nat) : Int) := by
        rw [show min 8 64 = 8 from rfl, wrap_id (by omega) (by omega)]; omega
      have q4 : bitsOf .or .i64 (((s.getD 4 0).toNat * 256 : Nat) : Int) ((s.getD 5 0).toNat : Int) = ((wAt s 4 : Nat) : Int) := w16_or _ _
      have q5 : IntKind.i64.wrap (40 + ((wAt s 4 : Nat) : Int)) = ((40 + wAt s 4 : Nat) : Int) := by rw [wrap_id (by omega) (by omega)]; omega
      have q6 : IntKind.i64.wrap ((s.getD 6 0).toNat : Int) = ((bAt s 6 : Nat) : Int) := wrap_id (by omega) (by unfold bAt at hb6; omega)
      have q7 : IntKind.i64.wrap ((s.getD 7 0).toNat : Int) = ((bAt s 7 : Nat) : Int) := wrap_id (by omega) (by unfold bAt at hb7; omega)
      by_cases c3 : s.length < 40 + wAt s 4
      · have c3' : (s.length : Int) < ((40 + wAt s 4 : Nat) : Int) := by omega
        simp only [go_sem, ↓reduceIte, reduceCtorEq, upd_ne, back_new (no_at), Nat.reduceAdd, Nat.reduceEqDiff, Nat.reduceMul, Nat.reduceSub, Nat.reduceLeDiff, Nat.reduceLT, Int.reduceToNat, Int.reduceLE, Int.reduceLT, Int.reduceEq, UInt8.reduceOfNat, List.getElem?_map, Int.toNat_natCast, c1, c1', c2, c2', c3, c3', hfa, fE, g0, g4, g5, byteLV, e4, q1, q2, q3, q4, q5]
      · have c3' : ¬ (s.length : Int) < ((40 + wAt s 4 : Nat) : Int) := by omega
        have hN := ev_New hS (n + 2) s
        have hU := ev_U32 hS n s 0 (by omega) hs
        simp only [Nat.zero_add, List.drop_zero] at hU
        have hx := num4_lt s
        have d1 : Int.fdiv ((numN (s.take 4) : Nat) : Int) (2 ^ min 20 64) = ((numN (s.take 4) / 1048576 : Nat) : Int) := by
          rw [show min 20 64 = 20 from rfl, Int.fdiv_eq_ediv_of_nonneg _ (by decide)]; rfl
        have d2 : bitsOf .and .i64 ((numN (s.take 4) / 1048576 : Nat) : Int) 255 = pcl6 s := by
          rw [show (255 : Int) = ((2 ^ 8 - 1 : Nat) : Int) from rfl, bits_mask 8 (by omega) (show ((numN (s.take 4) / 1048576 : Nat) : Int) ≤ 9223372036854775807 by omega) (by decide)]
          rfl
        have d3 : bitsOf .and .i64 ((numN (s.take 4) : Nat) : Int) 1048575 = pfl6 s := by
          rw [show (1048575 : Int) = ((2 ^ 20 - 1 : Nat) : Int) from rfl, bits_mask 20 (by omega) (show ((numN (s.take 4) : Nat) : Int) ≤ 9223372036854775807 by omega) (by decide)]
          rfl
        have k1 : ∀ sl : Slots, wCopy (upd sl 8 (.obj 1 (ip6LV (pcl6 s) (pfl6 s) (bAt s 7 : Nat) y16 y16 (.lst none []) false 0 0 false 0 []))) (.arr 8 1 [3] 3 0 16) (.str (s.drop 8)) = _ := fun sl => wc3 rfl (by rw [List.length_drop]; omega)
        have hlf : (pfr6 s).length = 16 := by unfold pfr6; simp; omega
        have hlt : (pto6 s).length = 16 := by unfold pto6; simp; omega
        have k2 : ∀ sl : Slots, wCopy (upd sl 8 (.obj 1 (ip6LV (pcl6 s) (pfl6 s) (bAt s 7 : Nat) (pfr6 s) y16 (.lst none []) false 0 0 false 0 []))) (.arr 8 1 [4] 19 0 16) (.str (s.drop 24)) = _ := fun sl => wc4 hlf rfl (by rw [List.length_drop]; omega)
        have v5 : (s.drop 8).take 16 = pfr6 s := rfl
        have v6 : (s.drop 24).take 16 = pto6 s := rfl
        have l8 : 8 ≤ s.length := by omega
        have l24 : 24 ≤ s.length := by omega
        have l40 : 40 ≤ 40 + wAt s 4 := by omega
        have l41 : 40 + wAt s 4 ≤ s.length := by omega
        have l42 : 40 + wAt s 4 - 40 = wAt s 4 := by omega
        have t8 : (s.drop 8).take (s.length - 8) = s.drop 8 := List.take_of_length_le (by simp)
        have t24 : (s.drop 24).take (s.length - 24) = s.drop 24 := List.take_of_length_le (by simp)
        have hC : S.ev (n + 3) id_ip6_Chain [.int .i64 ((bAt s 6 : Nat) : Int), .str ((s.drop 40).take (wAt s 4))] none = some (chLV (k6 s), none) := ev_chain6 hS (n + 1) _ _ (by rw [List.length_take]; omega)
        have hkl : (k6 s).1 = 0 → (k6 s).2.2.2.length ≤ 65535 := by
          intro _
          have : ∀ (k : Nat) (f : Bool) (nx : Int) (u : List UInt8), (chC k f nx u).2.2.2.length ≤ u.length := by
            intro k
            induction k with
            | zero => intro f nx u; unfold chC; split <;> (try split) <;> simp
            | succ k ih =>
              intro f nx u
              unfold chC
              split
              · split
                · simp
                · split
                  · simp
                  · have := ih false ((bAt u 0 : Nat) : Int) (u.drop (sz6 u))
                    rw [List.length_drop] at this
                    simp only
                    split <;> (try simp only) <;> omega
              · simp
          refine Nat.le_trans (this _ _ _ _) ?_
          rw [List.length_take]; omega
        unfold chLV at hC
        unfold mk6 kR6
        rcases hks : k6 s with ⟨kc, kl, kp, kr⟩
        rw [hks] at hC hkl
        try dsimp only at hC
        try dsimp only at hkl
        try dsimp only
        by_cases c4 : kc = 0
        · subst c4
          have hkl := hkl rfl
          rw [show fE 0 = .nili from rfl] at hC
          by_cases c5 : kp = 44
          · subst c5
            by_cases c6 : kr.length < 8
            · have c6' : (kr.length : Int) < 8 := by omega
              simp only [go_sem, ↓reduceIte, reduceCtorEq, upd_ne, back_new (no_at), Nat.reduceAdd, Nat.reduceEqDiff, Nat.reduceMul, Nat.reduceSub, Nat.reduceLeDiff, Nat.reduceLT, Int.reduceToNat, Int.reduceLE, Int.reduceLT, Int.reduceEq, UInt8.reduceOfNat, List.getElem?_map, Int.toNat_natCast, Nat.sub_zero, c1, c1', c2, c2', c3, c3', c6, c6', kF6, hfa, hN, hU, hC, fE, g0, g4, g5, g6, g7, byteLV, e4, q1, q2, q3, q4, q5, q6, q7, d1, d2, d3, k1, k2, v5, v6, hlf, hlt, l8, l24, l40, l41, l42, t8, t24, Nat.le_refl]
            · have c6' : ¬ (kr.length : Int) < 8 := by omega
              have h0 := get_def (s := kr) (i := 0) (by omega)
              have h2 := get_def (s := kr) (i := 2) (by omega)
              have h3 := get_def (s := kr) (i := 3) (by omega)
              have i0 := bAt_le kr 0
              have i2 := (kr.getD 2 0).toNat_lt
              have i3 := (kr.getD 3 0).toNat_lt
              have hw2 := wAt_le kr 2
              have r1 : IntKind.i64.wrap ((kr.getD 2 0).toNat : Int) = ((kr.getD 2 0).toNat : Int) := wrap_id (by omega) (by omega)
              have r2 : IntKind.i64.wrap ((kr.getD 3 0).toNat : Int) = ((kr.getD 3 0).toNat : Int) := wrap_id (by omega) (by omega)
              have r3 : IntKind.i64.wrap (((kr.getD 2 0).toNat : Int) * 2 ^ min 8 64) = (((kr.getD 2 0).toNat * 256 : Nat) : Int) := by
                rw [show min 8 64 = 8 from rfl, wrap_id (by omega) (by omega)]; omega
              have r4 : bitsOf .or .i64 (((kr.getD 2 0).toNat * 256 : Nat) : Int) ((kr.getD 3 0).toNat : Int) = ((wAt kr 2 : Nat) : Int) := w16_or _ _
              have r5 : IntKind.i64.wrap ((kr.getD 0 0).toNat : Int) = ((bAt kr 0 : Nat) : Int) := wrap_id (by omega) (by unfold bAt at i0; omega)
              have r6 : bitsOf .andNot .i64 ((wAt kr 2 : Nat) : Int) 7 = ((fa6 kr : Nat) : Int) := andNot7 _ hw2
              have r7 : bitsOf .and .i64 ((wAt kr 2 : Nat) : Int) 1 = ((wAt kr 2 % 2 : Nat) : Int) := by
                rw [show (1 : Int) = ((2 ^ 1 - 1 : Nat) : Int) from rfl, bits_mask 1 (by omega) (show ((wAt kr 2 : Nat) : Int) ≤ 9223372036854775807 by omega) (by decide)]
                rfl
              have r8 : (!decide (((wAt kr 2 % 2 : Nat) : Int) = 0)) = fm6 kr := by
                unfold fm6
                rw [← decide_not]
                exact decide_eq_decide.2 (by omega)
              have r8' : (decide (¬ ((wAt kr 2 % 2 : Nat) : Int) = 0)) = fm6 kr := by rw [← r8]; simp
              have hN2 := ev_New hS (n + 2) (kr.drop 4)
              have hU2 := ev_U32 hS n (kr.drop 4) 0 (by rw [List.length_drop]; omega) (by rw [List.length_drop]; omega)
              simp only [Nat.zero_add, List.drop_zero] at hU2
              have hU2 : S.ev (n + 3) id_num_Reader_U32 [.ptr 0 0 [] 0] (some (nrLV (kr.drop 4) 0)) = some (.tup [.int .i64 ((fi6 kr : Nat) : Int), .nili], some (nrLV (kr.drop 4) 4)) := hU2
              have hfi : fi6 kr < 4294967296 := num4_lt (kr.drop 4)
              have r9 : IntKind.u32.wrap ((fi6 kr : Nat) : Int) = ((fi6 kr : Nat) : Int) := wrap_u32 hfi
              have m4 : 4 ≤ kr.length := by omega
              have m8 : 8 ≤ kr.length := by omega
              have u4 : (kr.drop 4).take (kr.length - 4) = kr.drop 4 := List.take_of_length_le (by simp)
              have u8' : (kr.drop 8).take (kr.length - 8) = kr.drop 8 := List.take_of_length_le (by simp)
              have hP := ev_pieced hS (n + 2) (cl := pcl6 s) (fl := pfl6 s) (ho := (bAt s 7 : Nat)) (ex := kl.map extLV) (fg := true) (id := (fi6 kr : Nat)) (at' := (fa6 kr : Nat)) (mo := fm6 kr) (pt := (bAt kr 0 : Nat)) (da := kr.drop 8) hlf hlt
              have hfa6 : fa6 kr ≤ 65535 := by unfold fa6; omega
              have r10 : IntKind.i64.wrap (65535 - ((fa6 kr : Nat) : Int)) = ((65535 - fa6 kr : Nat) : Int) := by rw [wrap_id (by omega) (by omega)]; omega
              by_cases c7 : (fm6 kr = true → (kr.drop 8).length ≠ 0 ∧ (kr.drop 8).length % 8 = 0)
              · rw [decide_eq_true c7] at hP
                by_cases c8 : fa6 kr + (kr.drop 8).length ≤ 65535
                · have c8' : ¬ ((65535 - fa6 kr : Nat) : Int) < (((kr.drop 8).length : Nat) : Int) := by omega
                  have c9 : okF6 (fm6 kr) (fa6 kr) (kr.drop 8) := ⟨c7, c8⟩
                  simp only [go_sem, ↓reduceIte, reduceCtorEq, upd_ne, back_new (no_at), Nat.reduceAdd, Nat.reduceEqDiff, Nat.reduceMul, Nat.reduceSub, Nat.reduceLeDiff, Nat.reduceLT, Int.reduceToNat, Int.reduceLE, Int.reduceLT, Int.reduceEq, UInt8.reduceOfNat, List.getElem?_map, Int.toNat_natCast, Nat.sub_zero, c1, c1', c2, c2', c3, c3', c6, c6', c8', c9, kF6, hfa, hN, hU, hN2, hU2, hC, hP, fE, g0, g4, g5, g6, g7, h0, h2, h3, byteLV, e4, q1, q2, q3, q4, q5, q6, q7, d1, d2, d3, k1, k2, v5, v6, hlf, hlt, l8, l24, l40, l41, l42, t8, t24, r1, r2, r3, r4, r5, r6, r7, r8, r8', r9, r10, m4, m8, u4, u8', Nat.le_refl]
                · have c8' : ((65535 - fa6 kr : Nat) : Int) < (((kr.drop 8).length : Nat) : Int) := by omega
                  have c9 : ¬ okF6 (fm6 kr) (fa6 kr) (kr.drop 8) := fun h => c8 h.2
                  simp only [go_sem, ↓reduceIte, reduceCtorEq, upd_ne, back_new (no_at), Nat.reduceAdd, Nat.reduceEqDiff, Nat.reduceMul, Nat.reduceSub, Nat.reduceLeDiff, Nat.reduceLT, Int.reduceToNat, Int.reduceLE, Int.reduceLT, Int.reduceEq, UInt8.reduceOfNat, List.getElem?_map, Int.toNat_natCast, Nat.sub_zero, c1, c1', c2, c2', c3, c3', c6, c6', c8', c9, kF6, hfa, hN, hU, hN2, hU2, hC, hP, fE, g0, g4, g5, g6, g7, h0, h2, h3, byteLV, e4, q1, q2, q3, q4, q5, q6, q7, d1, d2, d3, k1, k2, v5, v6, hlf, hlt, l8, l24, l40, l41, l42, t8, t24, r1, r2, r3, r4, r5, r6, r7, r8, r8', r9, r10, m4, m8, u4, u8', Nat.le_refl]
              · rw [decide_eq_false c7] at hP
                have c9 : ¬ okF6 (fm6 kr) (fa6 kr) (kr.drop 8) := fun h => c7 h.1
                simp only [go_sem, ↓reduceIte, reduceCtorEq, upd_ne, back_new (no_at), Nat.reduceAdd, Nat.reduceEqDiff, Nat.reduceMul, Nat.reduceSub, Nat.reduceLeDiff, Nat.reduceLT, Int.reduceToNat, Int.reduceLE, Int.reduceLT, Int.reduceEq, UInt8.reduceOfNat, List.getElem?_map, Int.toNat_natCast, Nat.sub_zero, c1, c1', c2, c2', c3, c3', c6, c6', c9, kF6, hfa, hN, hU, hN2, hU2, hC, hP, fE, g0, g4, g5, g6, g7, h0, h2, h3, byteLV, e4, q1, q2, q3, q4, q5, q6, q7, d1, d2, d3, k1, k2, v5, v6, hlf, hlt, l8, l24, l40, l41, l42, t8, t24, r1, r2, r3, r4, r5, r6, r7, r8, r8', r9, r10, m4, m8, u4, u8', Nat.le_refl]
          · simp only [go_sem, ↓reduceIte, reduceCtorEq, upd_ne, back_new (no_at), Nat.reduceAdd, Nat.reduceEqDiff, Nat.reduceMul, Nat.reduceSub, Nat.reduceLeDiff, Nat.reduceLT, Int.reduceToNat, Int.reduceLE, Int.reduceLT, Int.reduceEq, UInt8.reduceOfNat, List.getElem?_map, Int.toNat_natCast, Nat.sub_zero, c1, c1', c2, c2', c3, c3', c5, hfa, hN, hU, hC, fE, g0, g4, g5, g6, g7, byteLV, e4, q1, q2, q3, q4, q5, q6, q7, d1, d2, d3, k1, k2, v5, v6, hlf, hlt, l8, l24, l40, l41, l42, t8, t24, Nat.le_refl]
        · simp only [fE, if_neg c4] at hC
          simp only [go_sem, ↓reduceIte, reduceCtorEq, upd_ne, back_new (no_at), Nat.reduceAdd, Nat.reduceEqDiff, Nat.reduceMul, Nat.reduceSub, Nat.reduceLeDiff, Nat.reduceLT, Int.reduceToNat, Int.reduceLE, Int.reduceLT, Int.reduceEq, UInt8.reduceOfNat, List.getElem?_map, Int.toNat_natCast, Nat.sub_zero, c1, c1', c2, c2', c3, c3', c4, hfa, hN, hU, hC, fE, g0, g4, g5, g6, g7, byteLV, e4, q1, q2, q3, q4, q5, q6, q7, d1, d2, d3, k1, k2, v5, v6, hlf, hlt, l8, l24, l40, l41, l42, t8, t24, Nat.le_refl]
end
end Go.Ev

/- Layer 4: why a packet has no bytes. -/
namespace Go.Ev
set_option linter.unusedSimpArgs false
set_option linter.unusedVariables false
set_option maxRecDepth 4000
set_option maxHeartbeats 8000000
def kB (ex : List (Int × List UInt8)) : Bool := ex.all fun e => decide (isE e.1)
abbrev fE1 (f : Bool) (e : Int × List UInt8) : Prop := e.2.length % 8 = 6 ∧ e.2.length ≤ 2046 ∧ (e.1 = 0 → f = true)
def fB : Bool → List (Int × List UInt8) → Bool
  | _, [] => true
  | f, e :: l => decide (fE1 f e) && fB false l
def szE : List (Int × List UInt8) → Nat
  | [] => 0
  | e :: l => e.2.length + 2 + szE l
abbrev rg6 (cl fl ho at' pt : Int) : Prop := (0 ≤ cl ∧ cl ≤ 255) ∧ (0 ≤ fl ∧ fl ≤ 1048575) ∧ (0 ≤ ho ∧ ho ≤ 255) ∧ (0 ≤ pt ∧ pt ≤ 255) ∧ (0 ≤ at' ∧ at' ≤ 65528) ∧ Int.tmod at' 8 = 0
abbrev kd6 (ex : List (Int × List UInt8)) (fg : Bool) (pt : Int) : Prop := kB ex = true ∧ (fg = false → ¬ isE pt ∧ pt ≠ 44)
abbrev pc6 (mo : Bool) (da : List UInt8) : Prop := mo = true → da.length ≠ 0 ∧ da.length % 8 = 0
abbrev fm6' (ex : List (Int × List UInt8)) (fg : Bool) (id at' : Int) (mo : Bool) (da : List UInt8) : Prop :=
  fB true ex = true ∧ (if fg = true then pc6 mo da else id = 0 ∧ at' = 0 ∧ mo = false)
def bh6 (ex : List (Int × List UInt8)) (fg : Bool) (da : List UInt8) : Nat := szE ex + (if fg = true then 8 else 0) + da.length
def why6 (cl fl ho : Int) (ex : List (Int × List UInt8)) (fg : Bool) (id at' : Int) (mo : Bool) (pt : Int) (da : List UInt8) : Int :=
  if rg6 cl fl ho at' pt then
    (if kd6 ex fg pt then (if fm6' ex fg id at' mo da then (if ex.length ≤ 8 ∧ at' + da.length ≤ 65535 ∧ bh6 ex fg da ≤ 65535 then 0 else 3) else 8) else 10) else 13
structure SmE (ex : List (Int × List UInt8)) : Prop where
  n : ex.length ≤ 20
  b : ∀ e ∈ ex, e.2.length ≤ 70000
theorem szE_app : ∀ (a b : List (Int × List UInt8)), szE (a ++ b) = szE a + szE b
  | [], b => by simp [szE]
  | e :: a, b => by simp only [List.cons_append, szE, szE_app a b]; omega
theorem szE_le : ∀ (ex : List (Int × List UInt8)), (∀ e ∈ ex, e.2.length ≤ 70000) → szE ex ≤ 70002 * ex.length
  | [], _ => by simp [szE]
  | e :: l, h => by
    have h1 := h e (by simp)
    have h2 := szE_le l fun x hx => h x (by simp [hx])
    simp only [szE, List.length_cons]
    omega
theorem drop_ex {ex : List (Int × List UInt8)} {i : Nat} {e : Int × List UInt8} (h : ex[i]? = some e) : ex.drop i = e :: ex.drop (i + 1) := by
  obtain ⟨hi, rfl⟩ := List.getElem?_eq_some_iff.1 h
  exact List.drop_eq_getElem_cons hi
section
variable {S : Sys} (hS : Has S) (n : Nat)
variable {cl fl ho : Int} {fr to : List UInt8} {ex : List (Int × List UInt8)} {fg : Bool} {id at' : Int} {mo : Bool} {pt : Int} {da : List UInt8}
include hS
theorem ev_within6 (x m : Int) : S.ev (n + 1) id_ip6_within [.int .i64 x, .int .i64 m] none = some (.bool (decide (0 ≤ x ∧ x ≤ m)), none) := by
  rw [Sys.step hS.h_ip6_within, F_ip6_within_eq]
  unfold F_ip6_within
  (try simp only [guard_merge, or_merge, and_merge, or_pick, and_pick, guard_or, guard_and]); simp only [to_ob]
  by_cases h1 : 0 ≤ x <;> by_cases h2 : x ≤ m <;> simp only [go_sem, ↓reduceIte, reduceCtorEq, upd_ne, back_new (no_at), Nat.reduceAdd, Nat.reduceEqDiff, Nat.reduceMul, Nat.reduceSub, Nat.reduceLeDiff, Nat.reduceLT, Int.reduceToNat, Int.reduceLE, Int.reduceLT, Int.reduceEq, UInt8.reduceOfNat, h1, h2]
theorem ev_kinds (hfr : fr.length = 16) (hto : to.length = 16) (hl : ex.length ≤ 140737488351232) :
    S.ev (n + 2) id_ip6_kinds [ip6LV cl fl ho fr to (extsLV ex) fg id at' mo pt da] none = some (.bool (decide (kd6 ex fg pt)), none) := by
  rw [Sys.step hS.h_ip6_kinds, F_ip6_kinds_eq]
  unfold F_ip6_kinds
  have hx := ev_extends hS n
  (try simp only [guard_merge, or_merge, and_merge, or_pick, and_pick, guard_or, guard_and]); simp only [to_ob]
  simp only [go_sem, ↓reduceIte, reduceCtorEq, upd_ne, back_new (no_at), Nat.reduceAdd, Nat.reduceEqDiff, Nat.reduceMul, Nat.reduceSub, Nat.reduceLeDiff, Nat.reduceLT, Int.reduceToNat, Int.reduceLE, Int.reduceLT, Int.reduceEq, UInt8.reduceOfNat, hfr, hto, List.length_map]
  refine while_rule (fun k q => ∃ i : Nat, q = ([.bool false, .int .i64 (i : Int)], noSlots) ∧ i + k = ex.length ∧ kB (ex.drop i) = kB ex) ex.length ⟨0, rfl, by simp, by simp⟩ ?_
  rintro k q ⟨i, rfl, hi, hr⟩
  simp only [go_sem, ↓reduceIte, reduceCtorEq, upd_ne, back_new (no_at), Nat.reduceAdd, Nat.reduceEqDiff, Nat.reduceMul, Nat.reduceSub, Nat.reduceLeDiff, Nat.reduceLT, Int.reduceToNat, Int.reduceLE, Int.reduceLT, Int.reduceEq, UInt8.reduceOfNat]
  refine nxt_ite (fun h => ?_) (fun h => ?_)
  · have hlt : i < ex.length := by omega
    obtain ⟨e, he⟩ : ∃ e, ex[i]? = some e := ⟨ex[i], by simp [hlt]⟩
    have hd := drop_ex he
    have e1 : IntKind.i64.wrap ((i : Int) + 1) = ((i + 1 : Nat) : Int) := by rw [wrap_id (by omega) (by omega)]; omega
    by_cases h1 : isE e.1
    · have h1' : decide (isE e.1) = true := decide_eq_true h1
      simp only [go_sem, ↓reduceIte, reduceCtorEq, upd_ne, back_new (no_at), Nat.reduceAdd, Nat.reduceEqDiff, Nat.reduceMul, Nat.reduceSub, Nat.reduceLeDiff, Nat.reduceLT, Int.reduceToNat, Int.reduceLE, Int.reduceLT, Int.reduceEq, UInt8.reduceOfNat, List.getElem?_map, Int.toNat_natCast, he, hx, h1', e1]
      exact ⟨k - 1, by omega, i + 1, rfl, by omega, by rw [← hr, hd]; simp only [kB, List.all_cons, h1', Bool.true_and]⟩
    · have h1' : decide (isE e.1) = false := decide_eq_false h1
      have hk : kB ex = false := by rw [← hr, hd]; simp only [kB, List.all_cons, h1', Bool.false_and]
      have hk' : ¬ kd6 ex fg pt := fun q => by have := q.1; rw [hk] at this; simp at this
      simp only [go_sem, ↓reduceIte, reduceCtorEq, upd_ne, back_new (no_at), Nat.reduceAdd, Nat.reduceEqDiff, Nat.reduceMul, Nat.reduceSub, Nat.reduceLeDiff, Nat.reduceLT, Int.reduceToNat, Int.reduceLE, Int.reduceLT, Int.reduceEq, UInt8.reduceOfNat, List.getElem?_map, Int.toNat_natCast, he, hx, h1', e1, Nxt, exIf, decide_eq_false hk']
  · rw [List.drop_eq_nil_of_le (by omega)] at hr
    have hk : kB ex = true := by rw [← hr]; rfl
    cases fg
    · by_cases h1 : isE pt
      · have h1' : decide (isE pt) = true := decide_eq_true h1
        have hk' : ¬ kd6 ex false pt := fun q => (q.2 rfl).1 h1
        simp only [go_sem, ↓reduceIte, reduceCtorEq, upd_ne, back_new (no_at), Nat.reduceAdd, Nat.reduceEqDiff, Nat.reduceMul, Nat.reduceSub, Nat.reduceLeDiff, Nat.reduceLT, Int.reduceToNat, Int.reduceLE, Int.reduceLT, Int.reduceEq, UInt8.reduceOfNat, hfr, hto, hx, h1', Nxt, exIf, decide_eq_false hk']
      · have h1' : decide (isE pt) = false := decide_eq_false h1
        by_cases h2 : pt = 44
        · have hk' : ¬ kd6 ex false pt := fun q => (q.2 rfl).2 h2
          simp only [go_sem, ↓reduceIte, reduceCtorEq, upd_ne, back_new (no_at), Nat.reduceAdd, Nat.reduceEqDiff, Nat.reduceMul, Nat.reduceSub, Nat.reduceLeDiff, Nat.reduceLT, Int.reduceToNat, Int.reduceLE, Int.reduceLT, Int.reduceEq, UInt8.reduceOfNat, hfr, hto, hx, h1', Nxt, exIf, decide_eq_false hk']
          simp [h2]
        · have hk' : kd6 ex false pt := ⟨hk, fun _ => ⟨h1, h2⟩⟩
          simp only [go_sem, ↓reduceIte, reduceCtorEq, upd_ne, back_new (no_at), Nat.reduceAdd, Nat.reduceEqDiff, Nat.reduceMul, Nat.reduceSub, Nat.reduceLeDiff, Nat.reduceLT, Int.reduceToNat, Int.reduceLE, Int.reduceLT, Int.reduceEq, UInt8.reduceOfNat, hfr, hto, hx, h1', Nxt, exIf, decide_eq_true hk']
          simp [h2]
    · have hk' : kd6 ex true pt := ⟨hk, fun q => by simp at q⟩
      simp only [go_sem, ↓reduceIte, reduceCtorEq, upd_ne, back_new (no_at), Nat.reduceAdd, Nat.reduceEqDiff, Nat.reduceMul, Nat.reduceSub, Nat.reduceLeDiff, Nat.reduceLT, Int.reduceToNat, Int.reduceLE, Int.reduceLT, Int.reduceEq, UInt8.reduceOfNat, hfr, hto, hx, Nxt, exIf, decide_eq_true hk']
theorem ev_formed (hfr : fr.length = 16) (hto : to.length = 16) (hl : ex.length ≤ 140737488351232) (hda : da.length ≤ 140737488351232) :
    S.ev (n + 2) id_ip6_formed [ip6LV cl fl ho fr to (extsLV ex) fg id at' mo pt da] none = some (.bool (decide (fm6' ex fg id at' mo da)), none) := by
  rw [Sys.step hS.h_ip6_formed, F_ip6_formed_eq]
  unfold F_ip6_formed
  have hp := ev_pieced hS n (cl := cl) (fl := fl) (ho := ho) (ex := ex.map extLV) (fg := true) (id := id) (at' := at') (mo := mo) (pt := pt) (da := da) hfr hto
  (try simp only [guard_merge, or_merge, and_merge, or_pick, and_pick, guard_or, guard_and]); simp only [to_ob]
  simp only [go_sem, ↓reduceIte, reduceCtorEq, upd_ne, back_new (no_at), Nat.reduceAdd, Nat.reduceEqDiff, Nat.reduceMul, Nat.reduceSub, Nat.reduceLeDiff, Nat.reduceLT, Int.reduceToNat, Int.reduceLE, Int.reduceLT, Int.reduceEq, UInt8.reduceOfNat, hfr, hto, List.length_map]
  refine while_rule (fun k q => ∃ i : Nat, q = ([.bool false, .int .i64 (i : Int)], noSlots) ∧ i + k = ex.length ∧ fB (decide (i = 0)) (ex.drop i) = fB true ex) ex.length ⟨0, rfl, by simp, by simp⟩ ?_
  rintro k q ⟨i, rfl, hi, hr⟩
  simp only [go_sem, ↓reduceIte, reduceCtorEq, upd_ne, back_new (no_at), Nat.reduceAdd, Nat.reduceEqDiff, Nat.reduceMul, Nat.reduceSub, Nat.reduceLeDiff, Nat.reduceLT, Int.reduceToNat, Int.reduceLE, Int.reduceLT, Int.reduceEq, UInt8.reduceOfNat]
  refine nxt_ite (fun h => ?_) (fun h => ?_)
  · have hlt : i < ex.length := by omega
    obtain ⟨e, he⟩ : ∃ e, ex[i]? = some e := ⟨ex[i], by simp [hlt]⟩
    have hd := drop_ex he
    have e1 : IntKind.i64.wrap ((i : Int) + 1) = ((i + 1 : Nat) : Int) := by rw [wrap_id (by omega) (by omega)]; omega
    have e2 : Int.tmod (e.2.length : Int) 8 = ((e.2.length % 8 : Nat) : Int) := rfl
    have bad : ¬ fE1 (decide (i = 0)) e → fB true ex = false := fun q => by rw [← hr, hd]; simp only [fB, decide_eq_false q, Bool.false_and]
    have bad' : ¬ fE1 (decide (i = 0)) e → decide (fm6' ex fg id at' mo da) = false := fun q => decide_eq_false fun p => by have := p.1; rw [bad q] at this; simp at this
    by_cases h1 : e.2.length % 8 = 6
    · have h1' : ((e.2.length % 8 : Nat) : Int) = 6 := by omega
      by_cases h2 : e.2.length ≤ 2046
      · have h2' : ¬ 2046 < (e.2.length : Int) := by omega
        by_cases h3 : e.1 = 0
        · by_cases h4 : i = 0
          · have h4' : ¬ 0 < (i : Int) := by omega
            simp only [go_sem, ↓reduceIte, reduceCtorEq, upd_ne, back_new (no_at), Nat.reduceAdd, Nat.reduceEqDiff, Nat.reduceMul, Nat.reduceSub, Nat.reduceLeDiff, Nat.reduceLT, Int.reduceToNat, Int.reduceLE, Int.reduceLT, Int.reduceEq, UInt8.reduceOfNat, List.getElem?_map, Int.toNat_natCast, he, e1, e2, h1', h2', h3, h4']
            refine ⟨k - 1, by omega, i + 1, rfl, by omega, ?_⟩
            have hg : fE1 (decide (i = 0)) e := ⟨h1, h2, fun _ => decide_eq_true h4⟩
            rw [← hr, hd]; simp only [fB, decide_eq_true hg, Bool.true_and]
            rw [show decide (i + 1 = 0) = false from decide_eq_false (by omega)]
          · have h4' : 0 < (i : Int) := by omega
            have hg : ¬ fE1 (decide (i = 0)) e := fun q => h4 (of_decide_eq_true (q.2.2 h3))
            simp only [go_sem, ↓reduceIte, reduceCtorEq, upd_ne, back_new (no_at), Nat.reduceAdd, Nat.reduceEqDiff, Nat.reduceMul, Nat.reduceSub, Nat.reduceLeDiff, Nat.reduceLT, Int.reduceToNat, Int.reduceLE, Int.reduceLT, Int.reduceEq, UInt8.reduceOfNat, List.getElem?_map, Int.toNat_natCast, he, e1, e2, h1', h2', h3, h4', Nxt, exIf, bad' hg]
        · simp only [go_sem, ↓reduceIte, reduceCtorEq, upd_ne, back_new (no_at), Nat.reduceAdd, Nat.reduceEqDiff, Nat.reduceMul, Nat.reduceSub, Nat.reduceLeDiff, Nat.reduceLT, Int.reduceToNat, Int.reduceLE, Int.reduceLT, Int.reduceEq, UInt8.reduceOfNat, List.getElem?_map, Int.toNat_natCast, he, e1, e2, h1', h2', h3]
          refine ⟨k - 1, by omega, i + 1, rfl, by omega, ?_⟩
          have hg : fE1 (decide (i = 0)) e := ⟨h1, h2, fun q => absurd q h3⟩
          rw [← hr, hd]; simp only [fB, decide_eq_true hg, Bool.true_and]
          rw [show decide (i + 1 = 0) = false from decide_eq_false (by omega)]
      · have h2' : 2046 < (e.2.length : Int) := by omega
        have hg : ¬ fE1 (decide (i = 0)) e := fun q => h2 q.2.1
        simp only [go_sem, ↓reduceIte, reduceCtorEq, upd_ne, back_new (no_at), Nat.reduceAdd, Nat.reduceEqDiff, Nat.reduceMul, Nat.reduceSub, Nat.reduceLeDiff, Nat.reduceLT, Int.reduceToNat, Int.reduceLE, Int.reduceLT, Int.reduceEq, UInt8.reduceOfNat, List.getElem?_map, Int.toNat_natCast, he, e1, e2, h1', h2', Nxt, exIf, bad' hg]
    · have h1' : ¬ ((e.2.length % 8 : Nat) : Int) = 6 := by omega
      have hg : ¬ fE1 (decide (i = 0)) e := fun q => h1 q.1
      simp only [go_sem, ↓reduceIte, reduceCtorEq, upd_ne, back_new (no_at), Nat.reduceAdd, Nat.reduceEqDiff, Nat.reduceMul, Nat.reduceSub, Nat.reduceLeDiff, Nat.reduceLT, Int.reduceToNat, Int.reduceLE, Int.reduceLT, Int.reduceEq, UInt8.reduceOfNat, List.getElem?_map, Int.toNat_natCast, he, e1, e2, h1', Nxt, exIf, bad' hg]
  · rw [List.drop_eq_nil_of_le (by omega)] at hr
    have hk : fB true ex = true := by rw [← hr]; cases decide (i = 0) <;> rfl
    cases fg
    · have hq : decide (fm6' ex false id at' mo da) = (decide (id = 0) && (decide (at' = 0) && !mo)) := by
        rw [Bool.eq_iff_iff]
        simp only [fm6', hk, decide_eq_true_eq, Bool.and_eq_true, Bool.not_eq_true', true_and, Bool.false_eq_true, if_false]
      rw [hq]
      by_cases h1 : id = 0 <;> by_cases h2 : at' = 0 <;> cases mo <;> simp only [go_sem, ↓reduceIte, reduceCtorEq, upd_ne, back_new (no_at), Nat.reduceAdd, Nat.reduceEqDiff, Nat.reduceMul, Nat.reduceSub, Nat.reduceLeDiff, Nat.reduceLT, Int.reduceToNat, Int.reduceLE, Int.reduceLT, Int.reduceEq, UInt8.reduceOfNat, hfr, hto, Nxt, exIf, h1, h2]
    · have hq : decide (fm6' ex true id at' mo da) = decide (pc6 mo da) := by
        apply decide_eq_decide.2
        simp only [fm6', hk, true_and, if_true]
      simp only [go_sem, ↓reduceIte, reduceCtorEq, upd_ne, back_new (no_at), Nat.reduceAdd, Nat.reduceEqDiff, Nat.reduceMul, Nat.reduceSub, Nat.reduceLeDiff, Nat.reduceLT, Int.reduceToNat, Int.reduceLE, Int.reduceLT, Int.reduceEq, UInt8.reduceOfNat, hfr, hto, hp, Nxt, exIf, hq]
theorem ev_size (hfr : fr.length = 16) (hto : to.length = 16) (hl : ex.length ≤ 20) (hb : ∀ e ∈ ex, e.2.length ≤ 70000) (hda : da.length ≤ 140737488351232) :
    S.ev (n + 1) id_ip6_size [ip6LV cl fl ho fr to (extsLV ex) fg id at' mo pt da] none = some (.int .i64 (bh6 ex fg da : Nat), none) := by
  rw [Sys.step hS.h_ip6_size, F_ip6_size_eq]
  unfold F_ip6_size
  have hsz := szE_le ex hb
  (try simp only [guard_merge, or_merge, and_merge, or_pick, and_pick, guard_or, guard_and]); simp only [to_ob]
  have go : ∀ (b0 : Nat) (i : Nat) (e : Int × List UInt8), b0 ≤ 140737488351240 → ex[i]? = some e → IntKind.i64.wrap (((b0 + szE (ex.take i) : Nat) : Int) + IntKind.i64.wrap ((e.2.length : Int) + 2)) = ((b0 + szE (ex.take (i + 1)) : Nat) : Int) := by
    intro b0 i e hb0 he
    have htk : ex.take (i + 1) = ex.take i ++ [e] := by rw [List.take_add_one, he]; rfl
    have h1 := hb e (List.mem_of_getElem? he)
    have h2 := szE_le (ex.take i) fun x hx => hb x (List.mem_of_mem_take hx)
    rw [List.length_take] at h2
    rw [wrap_id (n := (e.2.length : Int) + 2) (by omega) (by omega), wrap_id (by omega) (by omega), htk, szE_app]
    simp only [szE]
    omega
  have e0 : IntKind.i64.wrap ((da.length : Int) + 8) = ((da.length + 8 : Nat) : Int) := by rw [wrap_id (by omega) (by omega)]; omega
  cases fg
  · simp only [go_sem, ↓reduceIte, reduceCtorEq, upd_ne, back_new (no_at), Nat.reduceAdd, Nat.reduceEqDiff, Nat.reduceMul, Nat.reduceSub, Nat.reduceLeDiff, Nat.reduceLT, Int.reduceToNat, Int.reduceLE, Int.reduceLT, Int.reduceEq, UInt8.reduceOfNat, hfr, hto, List.length_map]
    refine while_rule (fun k q => ∃ i : Nat, q = ([.int .i64 ((da.length + szE (ex.take i) : Nat) : Int), .int .i64 (i : Int)], noSlots) ∧ i + k = ex.length) ex.length ⟨0, by simp [szE], by simp⟩ ?_
    rintro k q ⟨i, rfl, hi⟩
    simp only [go_sem, ↓reduceIte, reduceCtorEq, upd_ne, back_new (no_at), Nat.reduceAdd, Nat.reduceEqDiff, Nat.reduceMul, Nat.reduceSub, Nat.reduceLeDiff, Nat.reduceLT, Int.reduceToNat, Int.reduceLE, Int.reduceLT, Int.reduceEq, UInt8.reduceOfNat]
    refine nxt_ite (fun h => ?_) (fun h => ?_)
    · have hlt : i < ex.length := by omega
      obtain ⟨e, he⟩ : ∃ e, ex[i]? = some e := ⟨ex[i], by simp [hlt]⟩
      have e1 : IntKind.i64.wrap ((i : Int) + 1) = ((i + 1 : Nat) : Int) := by rw [wrap_id (by omega) (by omega)]; omega
      have e2 := go da.length i e (by omega) he
      simp only [go_sem, ↓reduceIte, reduceCtorEq, upd_ne, back_new (no_at), Nat.reduceAdd, Nat.reduceEqDiff, Nat.reduceMul, Nat.reduceSub, Nat.reduceLeDiff, Nat.reduceLT, Int.reduceToNat, Int.reduceLE, Int.reduceLT, Int.reduceEq, UInt8.reduceOfNat, List.getElem?_map, Int.toNat_natCast, he, e1, e2]
      exact ⟨k - 1, by omega, i + 1, rfl, by omega⟩
    · rw [List.take_of_length_le (by omega)]
      have : bh6 ex false da = da.length + szE ex := by unfold bh6; rw [if_neg Bool.false_ne_true]; omega
      simp only [go_sem, ↓reduceIte, reduceCtorEq, upd_ne, back_new (no_at), Nat.reduceAdd, Nat.reduceEqDiff, Nat.reduceMul, Nat.reduceSub, Nat.reduceLeDiff, Nat.reduceLT, Int.reduceToNat, Int.reduceLE, Int.reduceLT, Int.reduceEq, UInt8.reduceOfNat, Nxt, exIf, this]
  · simp only [go_sem, ↓reduceIte, reduceCtorEq, upd_ne, back_new (no_at), Nat.reduceAdd, Nat.reduceEqDiff, Nat.reduceMul, Nat.reduceSub, Nat.reduceLeDiff, Nat.reduceLT, Int.reduceToNat, Int.reduceLE, Int.reduceLT, Int.reduceEq, UInt8.reduceOfNat, hfr, hto, e0, List.length_map]
    refine while_rule (fun k q => ∃ i : Nat, q = ([.int .i64 ((da.length + 8 + szE (ex.take i) : Nat) : Int), .int .i64 (i : Int)], noSlots) ∧ i + k = ex.length) ex.length ⟨0, by simp [szE], by simp⟩ ?_
    rintro k q ⟨i, rfl, hi⟩
    simp only [go_sem, ↓reduceIte, reduceCtorEq, upd_ne, back_new (no_at), Nat.reduceAdd, Nat.reduceEqDiff, Nat.reduceMul, Nat.reduceSub, Nat.reduceLeDiff, Nat.reduceLT, Int.reduceToNat, Int.reduceLE, Int.reduceLT, Int.reduceEq, UInt8.reduceOfNat]
    refine nxt_ite (fun h => ?_) (fun h => ?_)
    · have hlt : i < ex.length := by omega
      obtain ⟨e, he⟩ : ∃ e, ex[i]? = some e := ⟨ex[i], by simp [hlt]⟩
      have e1 : IntKind.i64.wrap ((i : Int) + 1) = ((i + 1 : Nat) : Int) := by rw [wrap_id (by omega) (by omega)]; omega
      have e2 := go (da.length + 8) i e (by omega) he
      simp only [go_sem, ↓reduceIte, reduceCtorEq, upd_ne, back_new (no_at), Nat.reduceAdd, Nat.reduceEqDiff, Nat.reduceMul, Nat.reduceSub, Nat.reduceLeDiff, Nat.reduceLT, Int.reduceToNat, Int.reduceLE, Int.reduceLT, Int.reduceEq, UInt8.reduceOfNat, List.getElem?_map, Int.toNat_natCast, he, e1, e2]
      exact ⟨k - 1, by omega, i + 1, rfl, by omega⟩
    · rw [List.take_of_length_le (by omega)]
      have : bh6 ex true da = da.length + 8 + szE ex := by unfold bh6; rw [if_pos rfl]; omega
      simp only [go_sem, ↓reduceIte, reduceCtorEq, upd_ne, back_new (no_at), Nat.reduceAdd, Nat.reduceEqDiff, Nat.reduceMul, Nat.reduceSub, Nat.reduceLeDiff, Nat.reduceLT, Int.reduceToNat, Int.reduceLE, Int.reduceLT, Int.reduceEq, UInt8.reduceOfNat, Nxt, exIf, this]
theorem ev_why6 (hfr : fr.length = 16) (hto : to.length = 16) (hl : ex.length ≤ 140737488351232) (hb : ∀ e ∈ ex, e.2.length ≤ 140737488351232) (hda : da.length ≤ 140737488351232) :
    S.ev (n + 3) id_ip6_why [ip6LV cl fl ho fr to (extsLV ex) fg id at' mo pt da] none = some (.int .i64 (why6 cl fl ho ex fg id at' mo pt da), none) := by
  rw [Sys.step hS.h_ip6_why, F_ip6_why_eq]
  unfold F_ip6_why
  have hw := ev_within6 hS (n + 1)
  have hk := ev_kinds hS n (cl := cl) (fl := fl) (ho := ho) (fg := fg) (id := id) (at' := at') (mo := mo) (pt := pt) (da := da) hfr hto hl
  have hf := ev_formed hS n (cl := cl) (fl := fl) (ho := ho) (fg := fg) (id := id) (at' := at') (mo := mo) (pt := pt) (da := da) hfr hto hl hda
  (try simp only [guard_merge, or_merge, and_merge, or_pick, and_pick, guard_or, guard_and]); simp only [to_ob]
  unfold why6
  by_cases c1 : rg6 cl fl ho at' pt
  · rw [if_pos c1]
    obtain ⟨⟨a1, a2⟩, ⟨a3, a4⟩, ⟨a5, a6⟩, ⟨a7, a8⟩, ⟨a9, a10⟩, a11⟩ := c1
    have w0 : IntKind.i64.wrap (65535 - at') = 65535 - at' := wrap_id (by omega) (by omega)
    by_cases c2 : kd6 ex fg pt
    · rw [if_pos c2]
      rw [decide_eq_true c2] at hk
      by_cases c3 : fm6' ex fg id at' mo da
      · rw [if_pos c3]
        rw [decide_eq_true c3] at hf
        by_cases c4 : ex.length ≤ 8
        · have c4' : ¬ 8 < (ex.length : Int) := by omega
          by_cases c5 : at' + da.length ≤ 65535
          · have c5' : ¬ 65535 - at' < (da.length : Int) := by omega
            have hb2 : ∀ e ∈ ex, e.2.length ≤ 70000 := by
              have : ∀ (l : List (Int × List UInt8)) (f : Bool), fB f l = true → ∀ e ∈ l, e.2.length ≤ 2046 := by
                intro l
                induction l with
                | nil => intro f h e he; simp at he
                | cons x l ih =>
                  intro f h e he
                  simp only [fB, Bool.and_eq_true, decide_eq_true_eq] at h
                  rcases List.mem_cons.1 he with rfl | he
                  · exact h.1.2.1
                  · exact ih _ h.2 e he
              intro e he
              have := this ex true c3.1 e he
              omega
            have hz := ev_size hS (n + 1) (cl := cl) (fl := fl) (ho := ho) (fr := fr) (to := to) (fg := fg) (id := id) (at' := at') (mo := mo) (pt := pt) (da := da) hfr hto (by omega) hb2 hda
            by_cases c6 : bh6 ex fg da ≤ 65535
            · have c6' : ¬ 65535 < ((bh6 ex fg da : Nat) : Int) := by omega
              simp only [go_sem, ↓reduceIte, reduceCtorEq, upd_ne, back_new (no_at), Nat.reduceAdd, Nat.reduceEqDiff, Nat.reduceMul, Nat.reduceSub, Nat.reduceLeDiff, Nat.reduceLT, Int.reduceToNat, Int.reduceLE, Int.reduceLT, Int.reduceEq, UInt8.reduceOfNat, hfr, hto, hw, a1, a2, a3, a4, a5, a6, a7, a8, a9, a10, a11, hk, hf, c4, c4', c5, c5', c6, c6', w0, hz, List.length_map]
            · have c6' : 65535 < ((bh6 ex fg da : Nat) : Int) := by omega
              simp only [go_sem, ↓reduceIte, reduceCtorEq, upd_ne, back_new (no_at), Nat.reduceAdd, Nat.reduceEqDiff, Nat.reduceMul, Nat.reduceSub, Nat.reduceLeDiff, Nat.reduceLT, Int.reduceToNat, Int.reduceLE, Int.reduceLT, Int.reduceEq, UInt8.reduceOfNat, hfr, hto, hw, a1, a2, a3, a4, a5, a6, a7, a8, a9, a10, a11, hk, hf, c4, c4', c5, c5', c6, c6', w0, hz, List.length_map]
          · have c5' : 65535 - at' < (da.length : Int) := by omega
            simp only [go_sem, ↓reduceIte, reduceCtorEq, upd_ne, back_new (no_at), Nat.reduceAdd, Nat.reduceEqDiff, Nat.reduceMul, Nat.reduceSub, Nat.reduceLeDiff, Nat.reduceLT, Int.reduceToNat, Int.reduceLE, Int.reduceLT, Int.reduceEq, UInt8.reduceOfNat, hfr, hto, hw, a1, a2, a3, a4, a5, a6, a7, a8, a9, a10, a11, hk, hf, c4, c4', c5, c5', w0, List.length_map]
        · have c4' : 8 < (ex.length : Int) := by omega
          simp only [go_sem, ↓reduceIte, reduceCtorEq, upd_ne, back_new (no_at), Nat.reduceAdd, Nat.reduceEqDiff, Nat.reduceMul, Nat.reduceSub, Nat.reduceLeDiff, Nat.reduceLT, Int.reduceToNat, Int.reduceLE, Int.reduceLT, Int.reduceEq, UInt8.reduceOfNat, hfr, hto, hw, a1, a2, a3, a4, a5, a6, a7, a8, a9, a10, a11, hk, hf, c4, c4', List.length_map]
      · rw [if_neg c3]
        rw [decide_eq_false c3] at hf
        simp only [go_sem, ↓reduceIte, reduceCtorEq, upd_ne, back_new (no_at), Nat.reduceAdd, Nat.reduceEqDiff, Nat.reduceMul, Nat.reduceSub, Nat.reduceLeDiff, Nat.reduceLT, Int.reduceToNat, Int.reduceLE, Int.reduceLT, Int.reduceEq, UInt8.reduceOfNat, hfr, hto, hw, a1, a2, a3, a4, a5, a6, a7, a8, a9, a10, a11, hk, hf]
    · rw [if_neg c2]
      rw [decide_eq_false c2] at hk
      simp only [go_sem, ↓reduceIte, reduceCtorEq, upd_ne, back_new (no_at), Nat.reduceAdd, Nat.reduceEqDiff, Nat.reduceMul, Nat.reduceSub, Nat.reduceLeDiff, Nat.reduceLT, Int.reduceToNat, Int.reduceLE, Int.reduceLT, Int.reduceEq, UInt8.reduceOfNat, hfr, hto, hw, a1, a2, a3, a4, a5, a6, a7, a8, a9, a10, a11, hk]
  · rw [if_neg c1]
    by_cases b1 : 0 ≤ cl ∧ cl ≤ 255
    · by_cases b2 : 0 ≤ fl ∧ fl ≤ 1048575
      · by_cases b3 : 0 ≤ ho ∧ ho ≤ 255
        · by_cases b4 : 0 ≤ pt ∧ pt ≤ 255
          · by_cases b5 : 0 ≤ at' ∧ at' ≤ 65528
            · have b6 : ¬ Int.tmod at' 8 = 0 := fun h => c1 ⟨b1, b2, b3, b4, b5, h⟩
              simp only [go_sem, ↓reduceIte, reduceCtorEq, upd_ne, back_new (no_at), Nat.reduceAdd, Nat.reduceEqDiff, Nat.reduceMul, Nat.reduceSub, Nat.reduceLeDiff, Nat.reduceLT, Int.reduceToNat, Int.reduceLE, Int.reduceLT, Int.reduceEq, UInt8.reduceOfNat, hw, hfr, hto, decide_eq_true b1, decide_eq_true b2, decide_eq_true b3, decide_eq_true b4, decide_eq_true b5, b6]
            · simp only [go_sem, ↓reduceIte, reduceCtorEq, upd_ne, back_new (no_at), Nat.reduceAdd, Nat.reduceEqDiff, Nat.reduceMul, Nat.reduceSub, Nat.reduceLeDiff, Nat.reduceLT, Int.reduceToNat, Int.reduceLE, Int.reduceLT, Int.reduceEq, UInt8.reduceOfNat, hw, hfr, hto, decide_eq_true b1, decide_eq_true b2, decide_eq_true b3, decide_eq_true b4, decide_eq_false b5]
          · simp only [go_sem, ↓reduceIte, reduceCtorEq, upd_ne, back_new (no_at), Nat.reduceAdd, Nat.reduceEqDiff, Nat.reduceMul, Nat.reduceSub, Nat.reduceLeDiff, Nat.reduceLT, Int.reduceToNat, Int.reduceLE, Int.reduceLT, Int.reduceEq, UInt8.reduceOfNat, hw, hfr, hto, decide_eq_true b1, decide_eq_true b2, decide_eq_true b3, decide_eq_false b4]
        · simp only [go_sem, ↓reduceIte, reduceCtorEq, upd_ne, back_new (no_at), Nat.reduceAdd, Nat.reduceEqDiff, Nat.reduceMul, Nat.reduceSub, Nat.reduceLeDiff, Nat.reduceLT, Int.reduceToNat, Int.reduceLE, Int.reduceLT, Int.reduceEq, UInt8.reduceOfNat, hw, hfr, hto, decide_eq_true b1, decide_eq_true b2, decide_eq_false b3]
      · simp only [go_sem, ↓reduceIte, reduceCtorEq, upd_ne, back_new (no_at), Nat.reduceAdd, Nat.reduceEqDiff, Nat.reduceMul, Nat.reduceSub, Nat.reduceLeDiff, Nat.reduceLT, Int.reduceToNat, Int.reduceLE, Int.reduceLT, Int.reduceEq, UInt8.reduceOfNat, hw, hfr, hto, decide_eq_true b1, decide_eq_false b2]
    · simp only [go_sem, ↓reduceIte, reduceCtorEq, upd_ne, back_new (no_at), Nat.reduceAdd, Nat.reduceEqDiff, Nat.reduceMul, Nat.reduceSub, Nat.reduceLeDiff, Nat.reduceLT, Int.reduceToNat, Int.reduceLE, Int.reduceLT, Int.reduceEq, UInt8.reduceOfNat, hw, hfr, hto, decide_eq_false b1]
end
end Go.Ev

/- Layer 4: a packet's bytes. -/
namespace Go.Ev
set_option linter.unusedSimpArgs false
set_option linter.unusedVariables false
set_option maxRecDepth 4000
set_option maxHeartbeats 8000000
def nxE : List (Int × List UInt8) → Int → Int
  | [], p => p
  | e :: _, _ => e.1
def exB : List (Int × List UInt8) → Int → List UInt8 → List UInt8
  | [], _, b => b
  | e :: l, p, b => beB 1 (nxE l p).toNat ++ (beB 1 (e.2.length / 8) ++ (e.2 ++ exB l p b))
def pcB (id at' : Int) (mo : Bool) (pt : Int) (da : List UInt8) : List UInt8 := beB 1 pt.toNat ++ (0 :: (beB 2 (at'.toNat + if mo = true then 1 else 0) ++ (beB 4 id.toNat ++ da)))
def bd6 (ex : List (Int × List UInt8)) (fg : Bool) (id at' : Int) (mo : Bool) (pt : Int) (da : List UInt8) : List UInt8 := if fg = true then exB ex 44 (pcB id at' mo pt da) else exB ex pt da
def by6 (cl fl ho : Int) (fr to : List UInt8) (ex : List (Int × List UInt8)) (fg : Bool) (id at' : Int) (mo : Bool) (pt : Int) (da : List UInt8) : List UInt8 :=
  beB 4 (1610612736 + cl.toNat * 1048576 + fl.toNat) ++ (beB 2 (bd6 ex fg id at' mo pt da).length ++ (beB 1 (nxE ex (if fg = true then 44 else pt)).toNat ++ (beB 1 ho.toNat ++ (fr ++ (to ++ bd6 ex fg id at' mo pt da)))))
def by6R (cl fl ho : Int) (fr to : List UInt8) (ex : List (Int × List UInt8)) (fg : Bool) (id at' : Int) (mo : Bool) (pt : Int) (da : List UInt8) : List UInt8 :=
  if why6 cl fl ho ex fg id at' mo pt da = 0 then by6 cl fl ho fr to ex fg id at' mo pt da else []
structure Ok6 (cl fl ho : Int) (ex : List (Int × List UInt8)) (fg : Bool) (id at' : Int) (mo : Bool) (pt : Int) (da : List UInt8) : Prop where
  rg : rg6 cl fl ho at' pt
  kd : kd6 ex fg pt
  fm : fm6' ex fg id at' mo da
  n8 : ex.length ≤ 8
  all : at' + da.length ≤ 65535
  bh : bh6 ex fg da ≤ 65535
theorem why6_zero {cl fl ho : Int} {ex : List (Int × List UInt8)} {fg : Bool} {id at' : Int} {mo : Bool} {pt : Int} {da : List UInt8} : why6 cl fl ho ex fg id at' mo pt da = 0 ↔ Ok6 cl fl ho ex fg id at' mo pt da := by
  unfold why6
  constructor
  · intro h
    split at h
    case isFalse => simp at h
    rename_i h1
    split at h
    case isFalse => simp at h
    rename_i h2
    split at h
    case isFalse => simp at h
    rename_i h3
    split at h
    case isFalse => simp at h
    rename_i h4
    exact ⟨h1, h2, h3, h4.1, h4.2.1, h4.2.2⟩
  · intro h
    rw [if_pos h.rg, if_pos h.kd, if_pos h.fm, if_pos ⟨h.n8, h.all, h.bh⟩]
theorem fB_le : ∀ (l : List (Int × List UInt8)) (f : Bool), fB f l = true → ∀ e ∈ l, e.2.length % 8 = 6 ∧ e.2.length ≤ 2046
  | [], _, _, e, he => by simp at he
  | x :: l, f, h, e, he => by
    simp only [fB, Bool.and_eq_true, decide_eq_true_eq] at h
    rcases List.mem_cons.1 he with rfl | he
    · exact ⟨h.1.1, h.1.2.1⟩
    · exact fB_le l _ h.2 e he
theorem exB_len : ∀ (l : List (Int × List UInt8)) (p : Int) (b : List UInt8), (exB l p b).length = szE l + b.length
  | [], p, b => by simp [exB, szE]
  | e :: l, p, b => by simp only [exB, szE, List.length_append, beB_len, exB_len l p b]; omega
theorem exB_app (l : List (Int × List UInt8)) (p : Int) (b : List UInt8) : exB l p b = exB l p [] ++ b := by
  induction l with
  | nil => rfl
  | cons e l ih => simp only [exB]; rw [ih]; simp only [List.append_assoc]
theorem nxE_rg {l : List (Int × List UInt8)} {p : Int} (h : kB l = true) (hp : 0 ≤ p ∧ p ≤ 255) : 0 ≤ nxE l p ∧ nxE l p ≤ 255 := by
  cases l with
  | nil => exact hp
  | cons e l =>
    simp only [kB, List.all_cons, Bool.and_eq_true, decide_eq_true_eq] at h
    show 0 ≤ e.1 ∧ e.1 ≤ 255
    rcases h.1 with (h | h) | h <;> omega
theorem szE_drop (l : List (Int × List UInt8)) (i : Nat) : szE (l.drop i) ≤ szE l := by
  conv => rhs; rw [← List.take_append_drop i l, szE_app]
  omega
theorem kB_drop {l : List (Int × List UInt8)} {i : Nat} (h : kB l = true) : kB (l.drop i) = true := by
  unfold kB at *
  rw [List.all_eq_true] at *
  intro e he
  exact h e (List.mem_of_mem_drop he)
theorem or6a {c : Nat} (hc : c ≤ 255) : 1610612736 ||| c * 1048576 = 1610612736 + c * 1048576 := by
  rw [show 1610612736 = 6 <<< 28 by rfl, ← Nat.shiftLeft_add_eq_or_of_lt (by omega)]
theorem or6b {c f : Nat} (hc : c ≤ 255) (hf : f ≤ 1048575) : (1610612736 + c * 1048576) ||| f = 1610612736 + c * 1048576 + f := by
  have h : 1610612736 + c * 1048576 = (1536 + c) <<< 20 := by simp only [Nat.shiftLeft_eq]; omega
  rw [h, ← Nat.shiftLeft_add_eq_or_of_lt (by omega)]
theorem lt4 {x : Int} (h : 0 ≤ x) (h1 : x < 4294967296) : 0 ≤ x ∧ x < ((256 ^ 4 : Nat) : Int) := ⟨h, h1⟩
section
variable {S : Sys} (hS : Has S) (n : Nat)
include hS
theorem ev_big6 (x : Int) (m : Nat) (hm : m = 1 ∨ m = 2 ∨ m = 4) (hx : 0 ≤ x ∧ x < ((256 ^ m : Nat) : Int)) (h64 : I64 x) : S.ev (n + 2) id_ip6_big [.int .i64 x, .int .i64 (m : Int)] none = some (.str (beB m x.toNat), none) := by
  rw [Sys.step hS.h_ip6_big, F_ip6_big_eq]
  unfold F_ip6_big
  have h1 := ev_Big hS n x m hm h64
  unfold bigR at h1
  rw [if_pos hx] at h1
  (try simp only [guard_merge, or_merge, and_merge, or_pick, and_pick, guard_or, guard_and]); simp only [to_ob]
  simp only [go_sem, ↓reduceIte, reduceCtorEq, upd_ne, back_new (no_at), Nat.reduceAdd, Nat.reduceEqDiff, Nat.reduceMul, Nat.reduceSub, Nat.reduceLeDiff, Nat.reduceLT, Int.reduceToNat, Int.reduceLE, Int.reduceLT, Int.reduceEq, UInt8.reduceOfNat, h1]
theorem ev_b61 {x : Int} (h : 0 ≤ x) (h1 : x < 256) : S.ev (n + 2) id_ip6_big [.int .i64 x, .int .i64 1] none = some (.str (beB 1 x.toNat), none) := ev_big6 hS n x 1 (by omega) (lt1 h h1) ⟨by omega, by omega⟩
theorem ev_b62 {x : Int} (h : 0 ≤ x) (h1 : x < 65536) : S.ev (n + 2) id_ip6_big [.int .i64 x, .int .i64 2] none = some (.str (beB 2 x.toNat), none) := ev_big6 hS n x 2 (by omega) (lt2 h h1) ⟨by omega, by omega⟩
theorem ev_b64 {x : Int} (h : 0 ≤ x) (h1 : x < 4294967296) : S.ev (n + 2) id_ip6_big [.int .i64 x, .int .i64 4] none = some (.str (beB 4 x.toNat), none) := ev_big6 hS n x 4 (by omega) (lt4 h h1) ⟨by omega, by omega⟩
theorem ev_bytes6_tt {cl fl ho : Int} {fr to : List UInt8} {ex : List (Int × List UInt8)} {id at' : Int} {pt : Int} {da : List UInt8} (hf : FitIp6 cl fl ho fr to ex id at' pt da) (c : why6 cl fl ho ex true id at' true pt da = 0) :
    S.ev (n + 4) id_ip6_Bytes [ip6LV cl fl ho fr to (extsLV ex) true id at' true pt da] none = some (.tup [.str (by6 cl fl ho fr to ex true id at' true pt da), .nili], none) := by
  rw [Sys.step hS.h_ip6_Bytes, F_ip6_Bytes_eq]
  unfold F_ip6_Bytes
  have hfr := hf.hfr
  have hto := hf.hto
  have hw := ev_why6 hS n (cl := cl) (fl := fl) (ho := ho) (fr := fr) (to := to) (ex := ex) (fg := true) (id := id) (at' := at') (mo := true) (pt := pt) (da := da) hfr hto hf.hex (fun e he => (hf.hexs e he).2) hf.hda
  rw [c] at hw
  have ok := why6_zero.1 c
  obtain ⟨⟨⟨a1, a2⟩, ⟨a3, a4⟩, ⟨a5, a6⟩, ⟨a7, a8⟩, ⟨a9, a10⟩, a11⟩, ok2, ok3, ok4, ok5, ok6⟩ := ok
  have hkb := ok2.1
  have hfb := fB_le ex true ok3.1
  have hid := hf.hid
  (try simp only [guard_merge, or_merge, and_merge, or_pick, and_pick, guard_or, guard_and]); simp only [to_ob]
  unfold by6 bd6
  simp only [Bool.false_eq_true, if_true, if_false]
  unfold bh6 at ok6
  simp only [Bool.false_eq_true, if_true, if_false] at ok6
  have b1 := ev_b61 hS (n + 1) (x := pt) (by omega) (by omega)
  have b2 := ev_b62 hS (n + 1) (x := at' + 1) (by omega) (by omega)
  have b3 := ev_b64 hS (n + 1) (x := id) (by omega) (by omega)
  have b4 := ev_b61 hS (n + 1) (x := ho) (by omega) (by omega)
  obtain ⟨cl, rfl⟩ := Int.eq_ofNat_of_zero_le a1
  obtain ⟨fl, rfl⟩ := Int.eq_ofNat_of_zero_le a3
  have b5 := ev_b64 hS (n + 1) (x := ((1610612736 + cl * 1048576 + fl : Nat) : Int)) (by omega) (by omega)
  have w1 : IntKind.i64.wrap id = id := wrap_id (by omega) (by omega)
  have w2 : IntKind.i64.wrap (at' + 1) = at' + 1 := wrap_id (by omega) (by omega)
  have w3 : IntKind.i64.wrap ((ex.length : Int) - 1) = (ex.length : Int) - 1 := wrap_id (by omega) (by omega)
  have w4 : IntKind.i64.wrap ((cl : Int) * 2 ^ min 20 64) = ((cl * 1048576 : Nat) : Int) := by rw [show min 20 64 = 20 from rfl, wrap_id (by omega) (by omega)]; omega
  have w5 : bitsOf .or .i64 1610612736 ((cl * 1048576 : Nat) : Int) = ((1610612736 + cl * 1048576 : Nat) : Int) := by
    rw [show (1610612736 : Int) = ((1610612736 : Nat) : Int) from rfl, bits_or_nat (by decide) (by simp [IntKind.max, IntKind.signed, IntKind.bits]; omega), or6a (by omega)]
  have w6 : bitsOf .or .i64 ((1610612736 + cl * 1048576 : Nat) : Int) (fl : Int) = ((1610612736 + cl * 1048576 + fl : Nat) : Int) := by
    rw [bits_or_nat (by simp [IntKind.max, IntKind.signed, IntKind.bits]; omega) (by simp [IntKind.max, IntKind.signed, IntKind.bits]; omega), or6b (by omega) (by omega)]
  have hl := beB_len
  have m0 : ∀ k : Nat, k ≤ 1000000 → k ≤ maxStr := fun k h => by unfold maxStr; omega
  have m2 : 2 ≤ maxStr := m0 _ (by decide)
  have m4 : 4 ≤ maxStr := m0 _ (by decide)
  have m6 : 6 ≤ maxStr := m0 _ (by decide)
  have m7 : 7 ≤ maxStr := m0 _ (by decide)
  have m8 : 8 ≤ maxStr := m0 _ (by decide)
  have m24 : 24 ≤ maxStr := m0 _ (by decide)
  have m40 : 40 ≤ maxStr := m0 _ (by decide)
  have mda : 8 + da.length ≤ maxStr := m0 _ (by omega)
  have ht1 : fr.take 16 = fr := List.take_of_length_le (by omega)
  have ht2 : to.take 16 = to := List.take_of_length_le (by omega)
  simp only [go_sem, ↓reduceIte, reduceCtorEq, upd_ne, back_new (no_at), Nat.reduceAdd, Nat.reduceEqDiff, Nat.reduceMul, Nat.reduceSub, Nat.reduceLeDiff, Nat.reduceLT, Int.reduceToNat, Int.reduceLE, Int.reduceLT, Int.reduceEq, UInt8.reduceOfNat, List.getElem?_map, Int.toNat_natCast, ↓e_sadd, hw, c, hfr, hto, b1, b2, b3, w1, w2, w3, hl, m2, m4, m6, m7, m8, mda, List.append_assoc, List.length_append, List.length_map]
  generalize hB : pcB id at' true pt da = B at *
  rw [show beB 1 pt.toNat ++ (0 :: (beB 2 (at' + 1).toNat ++ (beB 4 id.toNat ++ da))) = B by rw [← hB]; unfold pcB; rw [if_pos rfl, show (at' + 1).toNat = at'.toNat + 1 by omega]]
  have hBl : B.length ≤ 65535 := by rw [← hB]; unfold pcB; simp only [List.length_append, List.length_cons, beB_len]; omega
  have hBs : szE ex + B.length ≤ 65535 := by rw [← hB]; unfold pcB; simp only [List.length_append, List.length_cons, beB_len]; omega
  have hNr : 0 ≤ (44 : Int) ∧ (44 : Int) ≤ 255 := by omega
  refine while_rule (fun k q => ∃ i : Nat, q = ([.str (exB (ex.drop i) 44 B), .int .i64 (nxE (ex.drop i) 44), .int .i64 ((i : Int) - 1)], noSlots) ∧ i ≤ ex.length ∧ k = i) ex.length ⟨ex.length, by rw [List.drop_eq_nil_of_le (Nat.le_refl _)]; rfl, Nat.le_refl _, rfl⟩ ?_
  rintro k q ⟨i, rfl, hi, rfl⟩
  simp only [go_sem, ↓reduceIte, reduceCtorEq, upd_ne, back_new (no_at), Nat.reduceAdd, Nat.reduceEqDiff, Nat.reduceMul, Nat.reduceSub, Nat.reduceLeDiff, Nat.reduceLT, Int.reduceToNat, Int.reduceLE, Int.reduceLT, Int.reduceEq, UInt8.reduceOfNat]
  refine nxt_ite (fun h => ?_) (fun h => ?_)
  · obtain ⟨j, rfl⟩ : ∃ j, k = j + 1 := ⟨k - 1, by omega⟩
    have hlt : j < ex.length := by omega
    obtain ⟨e, he⟩ : ∃ e, ex[j]? = some e := ⟨ex[j], by simp [hlt]⟩
    have hd := drop_ex he
    have hem := List.mem_of_getElem? he
    have heb := hfb e hem
    have hnr := nxE_rg (p := 44) (kB_drop (i := j + 1) hkb) hNr
    have hxl := exB_len (ex.drop (j + 1)) 44 B
    have hsz := szE_drop ex (j + 1)
    have hsz2 := szE_drop ex j
    rw [hd] at hsz2
    simp only [szE] at hsz2
    have j1 : ((j + 1 : Nat) : Int) - 1 = (j : Int) := by omega
    have j2 : IntKind.i64.wrap ((j : Int) - 1) = (j : Int) - 1 := wrap_id (by omega) (by omega)
    have j3 : IntKind.i64.wrap (Int.tdiv (e.2.length : Int) 8) = ((e.2.length / 8 : Nat) : Int) := by
      rw [show Int.tdiv (e.2.length : Int) 8 = ((e.2.length / 8 : Nat) : Int) from rfl, wrap_id (by omega) (by omega)]
    have c1 := ev_b61 hS (n + 1) (x := nxE (ex.drop (j + 1)) 44) (by omega) (by omega)
    have c2 := ev_b61 hS (n + 1) (x := ((e.2.length / 8 : Nat) : Int)) (by omega) (by omega)
    have m1 : 2 + e.2.length ≤ maxStr := m0 _ (by omega)
    have m3 : 2 + (e.2.length + (szE (ex.drop (j + 1)) + B.length)) ≤ maxStr := m0 _ (by omega)
    have m5 : 2 + e.2.length + (szE (ex.drop (j + 1)) + B.length) ≤ maxStr := m0 _ (by omega)
    have m9 : 1 + (1 + e.2.length) ≤ maxStr := m0 _ (by omega)
    have m10 : 1 + (1 + (e.2.length + (szE (ex.drop (j + 1)) + B.length))) ≤ maxStr := m0 _ (by omega)
    have m11 : 1 + (1 + e.2.length) + (szE (ex.drop (j + 1)) + B.length) ≤ maxStr := m0 _ (by omega)
    simp only [Int.toNat_natCast] at c2
    simp only [go_sem, ↓reduceIte, reduceCtorEq, upd_ne, back_new (no_at), Nat.reduceAdd, Nat.reduceEqDiff, Nat.reduceMul, Nat.reduceSub, Nat.reduceLeDiff, Nat.reduceLT, Int.reduceToNat, Int.reduceLE, Int.reduceLT, Int.reduceEq, UInt8.reduceOfNat, List.getElem?_map, Int.toNat_natCast, ↓e_sadd, he, j1, j2, j3, c1, c2, hl, hxl, m1, m2, m3, m5, m9, m10, m11, List.append_assoc, List.length_append]
    exact ⟨j, by omega, j, by rw [hd]; rfl, by omega, rfl⟩
  · obtain rfl : k = 0 := by omega
    rw [List.drop_zero]
    have hxl := exB_len ex 44 B
    have hnr := nxE_rg (p := 44) hkb hNr
    have c1 := ev_b61 hS (n + 1) (x := nxE ex 44) (by omega) (by omega)
    have c2 := ev_b62 hS (n + 1) (x := ((szE ex + B.length : Nat) : Int)) (by omega) (by omega)
    simp only [Int.toNat_natCast] at c2 b5
    have m1 : 40 + (szE ex + B.length) ≤ maxStr := m0 _ (by omega)
    have m3 : 4 + (2 + (1 + (1 + (16 + (16 + (szE ex + B.length)))))) ≤ maxStr := m0 _ (by omega)
    have m5 : 4 + (2 + (1 + (1 + 16))) ≤ maxStr := m0 _ (by omega)
    have m9 : 4 + (2 + (1 + (1 + (16 + 16)))) ≤ maxStr := m0 _ (by omega)
    simp only [go_sem, ↓reduceIte, reduceCtorEq, upd_ne, back_new (no_at), Nat.reduceAdd, Nat.reduceEqDiff, Nat.reduceMul, Nat.reduceSub, Nat.reduceLeDiff, Nat.reduceLT, Int.reduceToNat, Int.reduceLE, Int.reduceLT, Int.reduceEq, UInt8.reduceOfNat, List.getElem?_map, Int.toNat_natCast, ↓e_sadd, Nxt, exIf, hfr, hto, ht1, ht2, toBytes_byteLV, b4, b5, c1, c2, w4, w5, w6, hl, hxl, m1, m2, m3, m4, m5, m6, m7, m8, m9, m24, m40, List.append_assoc, List.length_append, Int.toNat_natCast]
theorem ev_bytes6_tf {cl fl ho : Int} {fr to : List UInt8} {ex : List (Int × List UInt8)} {id at' : Int} {pt : Int} {da : List UInt8} (hf : FitIp6 cl fl ho fr to ex id at' pt da) (c : why6 cl fl ho ex true id at' false pt da = 0) :
    S.ev (n + 4) id_ip6_Bytes [ip6LV cl fl ho fr to (extsLV ex) true id at' false pt da] none = some (.tup [.str (by6 cl fl ho fr to ex true id at' false pt da), .nili], none) := by
  rw [Sys.step hS.h_ip6_Bytes, F_ip6_Bytes_eq]
  unfold F_ip6_Bytes
  have hfr := hf.hfr
  have hto := hf.hto
  have hw := ev_why6 hS n (cl := cl) (fl := fl) (ho := ho) (fr := fr) (to := to) (ex := ex) (fg := true) (id := id) (at' := at') (mo := false) (pt := pt) (da := da) hfr hto hf.hex (fun e he => (hf.hexs e he).2) hf.hda
  rw [c] at hw
  have ok := why6_zero.1 c
  obtain ⟨⟨⟨a1, a2⟩, ⟨a3, a4⟩, ⟨a5, a6⟩, ⟨a7, a8⟩, ⟨a9, a10⟩, a11⟩, ok2, ok3, ok4, ok5, ok6⟩ := ok
  have hkb := ok2.1
  have hfb := fB_le ex true ok3.1
  have hid := hf.hid
  (try simp only [guard_merge, or_merge, and_merge, or_pick, and_pick, guard_or, guard_and]); simp only [to_ob]
  unfold by6 bd6
  simp only [Bool.false_eq_true, if_true, if_false]
  unfold bh6 at ok6
  simp only [Bool.false_eq_true, if_true, if_false] at ok6
  have b1 := ev_b61 hS (n + 1) (x := pt) (by omega) (by omega)
  have b2 := ev_b62 hS (n + 1) (x := at') (by omega) (by omega)
  have b3 := ev_b64 hS (n + 1) (x := id) (by omega) (by omega)
  have b4 := ev_b61 hS (n + 1) (x := ho) (by omega) (by omega)
  obtain ⟨cl, rfl⟩ := Int.eq_ofNat_of_zero_le a1
  obtain ⟨fl, rfl⟩ := Int.eq_ofNat_of_zero_le a3
  have b5 := ev_b64 hS (n + 1) (x := ((1610612736 + cl * 1048576 + fl : Nat) : Int)) (by omega) (by omega)
  have w1 : IntKind.i64.wrap id = id := wrap_id (by omega) (by omega)
  have w2 : IntKind.i64.wrap (at' + 1) = at' + 1 := wrap_id (by omega) (by omega)
  have w3 : IntKind.i64.wrap ((ex.length : Int) - 1) = (ex.length : Int) - 1 := wrap_id (by omega) (by omega)
  have w4 : IntKind.i64.wrap ((cl : Int) * 2 ^ min 20 64) = ((cl * 1048576 : Nat) : Int) := by rw [show min 20 64 = 20 from rfl, wrap_id (by omega) (by omega)]; omega
  have w5 : bitsOf .or .i64 1610612736 ((cl * 1048576 : Nat) : Int) = ((1610612736 + cl * 1048576 : Nat) : Int) := by
    rw [show (1610612736 : Int) = ((1610612736 : Nat) : Int) from rfl, bits_or_nat (by decide) (by simp [IntKind.max, IntKind.signed, IntKind.bits]; omega), or6a (by omega)]
  have w6 : bitsOf .or .i64 ((1610612736 + cl * 1048576 : Nat) : Int) (fl : Int) = ((1610612736 + cl * 1048576 + fl : Nat) : Int) := by
    rw [bits_or_nat (by simp [IntKind.max, IntKind.signed, IntKind.bits]; omega) (by simp [IntKind.max, IntKind.signed, IntKind.bits]; omega), or6b (by omega) (by omega)]
  have hl := beB_len
  have m0 : ∀ k : Nat, k ≤ 1000000 → k ≤ maxStr := fun k h => by unfold maxStr; omega
  have m2 : 2 ≤ maxStr := m0 _ (by decide)
  have m4 : 4 ≤ maxStr := m0 _ (by decide)
  have m6 : 6 ≤ maxStr := m0 _ (by decide)
  have m7 : 7 ≤ maxStr := m0 _ (by decide)
  have m8 : 8 ≤ maxStr := m0 _ (by decide)
  have m24 : 24 ≤ maxStr := m0 _ (by decide)
  have m40 : 40 ≤ maxStr := m0 _ (by decide)
  have mda : 8 + da.length ≤ maxStr := m0 _ (by omega)
  have ht1 : fr.take 16 = fr := List.take_of_length_le (by omega)
  have ht2 : to.take 16 = to := List.take_of_length_le (by omega)
  simp only [go_sem, ↓reduceIte, reduceCtorEq, upd_ne, back_new (no_at), Nat.reduceAdd, Nat.reduceEqDiff, Nat.reduceMul, Nat.reduceSub, Nat.reduceLeDiff, Nat.reduceLT, Int.reduceToNat, Int.reduceLE, Int.reduceLT, Int.reduceEq, UInt8.reduceOfNat, List.getElem?_map, Int.toNat_natCast, ↓e_sadd, hw, c, hfr, hto, b1, b2, b3, w1, w2, w3, hl, m2, m4, m6, m7, m8, mda, List.append_assoc, List.length_append, List.length_map]
  generalize hB : pcB id at' false pt da = B at *
  rw [show beB 1 pt.toNat ++ (0 :: (beB 2 at'.toNat ++ (beB 4 id.toNat ++ da))) = B by rw [← hB]; unfold pcB; rw [if_neg Bool.false_ne_true, Nat.add_zero]]
  have hBl : B.length ≤ 65535 := by rw [← hB]; unfold pcB; simp only [List.length_append, List.length_cons, beB_len]; omega
  have hBs : szE ex + B.length ≤ 65535 := by rw [← hB]; unfold pcB; simp only [List.length_append, List.length_cons, beB_len]; omega
  have hNr : 0 ≤ (44 : Int) ∧ (44 : Int) ≤ 255 := by omega
  refine while_rule (fun k q => ∃ i : Nat, q = ([.str (exB (ex.drop i) 44 B), .int .i64 (nxE (ex.drop i) 44), .int .i64 ((i : Int) - 1)], noSlots) ∧ i ≤ ex.length ∧ k = i) ex.length ⟨ex.length, by rw [List.drop_eq_nil_of_le (Nat.le_refl _)]; rfl, Nat.le_refl _, rfl⟩ ?_
  rintro k q ⟨i, rfl, hi, rfl⟩
  simp only [go_sem, ↓reduceIte, reduceCtorEq, upd_ne, back_new (no_at), Nat.reduceAdd, Nat.reduceEqDiff, Nat.reduceMul, Nat.reduceSub, Nat.reduceLeDiff, Nat.reduceLT, Int.reduceToNat, Int.reduceLE, Int.reduceLT, Int.reduceEq, UInt8.reduceOfNat]
  refine nxt_ite (fun h => ?_) (fun h => ?_)
  · obtain ⟨j, rfl⟩ : ∃ j, k = j + 1 := ⟨k - 1, by omega⟩
    have hlt : j < ex.length := by omega
    obtain ⟨e, he⟩ : ∃ e, ex[j]? = some e := ⟨ex[j], by simp [hlt]⟩
    have hd := drop_ex he
    have hem := List.mem_of_getElem? he
    have heb := hfb e hem
    have hnr := nxE_rg (p := 44) (kB_drop (i := j + 1) hkb) hNr
    have hxl := exB_len (ex.drop (j + 1)) 44 B
    have hsz := szE_drop ex (j + 1)
    have hsz2 := szE_drop ex j
    rw [hd] at hsz2
    simp only [szE] at hsz2
    have j1 : ((j + 1 : Nat) : Int) - 1 = (j : Int) := by omega
    have j2 : IntKind.i64.wrap ((j : Int) - 1) = (j : Int) - 1 := wrap_id (by omega) (by omega)
    have j3 : IntKind.i64.wrap (Int.tdiv (e.2.length : Int) 8) = ((e.2.length / 8 : Nat) : Int) := by
      rw [show Int.tdiv (e.2.length : Int) 8 = ((e.2.length / 8 : Nat) : Int) from rfl, wrap_id (by omega) (by omega)]
    have c1 := ev_b61 hS (n + 1) (x := nxE (ex.drop (j + 1)) 44) (by omega) (by omega)
    have c2 := ev_b61 hS (n + 1) (x := ((e.2.length / 8 : Nat) : Int)) (by omega) (by omega)
    have m1 : 2 + e.2.length ≤ maxStr := m0 _ (by omega)
    have m3 : 2 + (e.2.length + (szE (ex.drop (j + 1)) + B.length)) ≤ maxStr := m0 _ (by omega)
    have m5 : 2 + e.2.length + (szE (ex.drop (j + 1)) + B.length) ≤ maxStr := m0 _ (by omega)
    have m9 : 1 + (1 + e.2.length) ≤ maxStr := m0 _ (by omega)
    have m10 : 1 + (1 + (e.2.length + (szE (ex.drop (j + 1)) + B.length))) ≤ maxStr := m0 _ (by omega)
    have m11 : 1 + (1 + e.2.length) + (szE (ex.drop (j + 1)) + B.length) ≤ maxStr := m0 _ (by omega)
    simp only [Int.toNat_natCast] at c2
    simp only [go_sem, ↓reduceIte, reduceCtorEq, upd_ne, back_new (no_at), Nat.reduceAdd, Nat.reduceEqDiff, Nat.reduceMul, Nat.reduceSub, Nat.reduceLeDiff, Nat.reduceLT, Int.reduceToNat, Int.reduceLE, Int.reduceLT, Int.reduceEq, UInt8.reduceOfNat, List.getElem?_map, Int.toNat_natCast, ↓e_sadd, he, j1, j2, j3, c1, c2, hl, hxl, m1, m2, m3, m5, m9, m10, m11, List.append_assoc, List.length_append]
    exact ⟨j, by omega, j, by rw [hd]; rfl, by omega, rfl⟩
  · obtain rfl : k = 0 := by omega
    rw [List.drop_zero]
    have hxl := exB_len ex 44 B
    have hnr := nxE_rg (p := 44) hkb hNr
    have c1 := ev_b61 hS (n + 1) (x := nxE ex 44) (by omega) (by omega)
    have c2 := ev_b62 hS (n + 1) (x := ((szE ex + B.length : Nat) : Int)) (by omega) (by omega)
    simp only [Int.toNat_natCast] at c2 b5
    have m1 : 40 + (szE ex + B.length) ≤ maxStr := m0 _ (by omega)
    have m3 : 4 + (2 + (1 + (1 + (16 + (16 + (szE ex + B.length)))))) ≤ maxStr := m0 _ (by omega)
    have m5 : 4 + (2 + (1 + (1 + 16))) ≤ maxStr := m0 _ (by omega)
    have m9 : 4 + (2 + (1 + (1 + (16 + 16)))) ≤ maxStr := m0 _ (by omega)
    simp only [go_sem, ↓reduceIte, reduceCtorEq, upd_ne, back_new (no_at), Nat.reduceAdd, Nat.reduceEqDiff, Nat.reduceMul, Nat.reduceSub, Nat.reduceLeDiff, Nat.reduceLT, Int.reduceToNat, Int.reduceLE, Int.reduceLT, Int.reduceEq, UInt8.reduceOfNat, List.getElem?_map, Int.toNat_natCast, ↓e_sadd, Nxt, exIf, hfr, hto, ht1, ht2, toBytes_byteLV, b4, b5, c1, c2, w4, w5, w6, hl, hxl, m1, m2, m3, m4, m5, m6, m7, m8, m9, m24, m40, List.append_assoc, List.length_append, Int.toNat_natCast]
theorem ev_bytes6_n {cl fl ho : Int} {fr to : List UInt8} {ex : List (Int × List UInt8)} {id at' : Int} {mo : Bool} {pt : Int} {da : List UInt8} (hf : FitIp6 cl fl ho fr to ex id at' pt da) (c : why6 cl fl ho ex false id at' mo pt da = 0) :
    S.ev (n + 4) id_ip6_Bytes [ip6LV cl fl ho fr to (extsLV ex) false id at' mo pt da] none = some (.tup [.str (by6 cl fl ho fr to ex false id at' mo pt da), .nili], none) := by
  rw [Sys.step hS.h_ip6_Bytes, F_ip6_Bytes_eq]
  unfold F_ip6_Bytes
  have hfr := hf.hfr
  have hto := hf.hto
  have hw := ev_why6 hS n (cl := cl) (fl := fl) (ho := ho) (fr := fr) (to := to) (ex := ex) (fg := false) (id := id) (at' := at') (mo := mo) (pt := pt) (da := da) hfr hto hf.hex (fun e he => (hf.hexs e he).2) hf.hda
  rw [c] at hw
  have ok := why6_zero.1 c
  obtain ⟨⟨⟨a1, a2⟩, ⟨a3, a4⟩, ⟨a5, a6⟩, ⟨a7, a8⟩, ⟨a9, a10⟩, a11⟩, ok2, ok3, ok4, ok5, ok6⟩ := ok
  have hkb := ok2.1
  have hfb := fB_le ex true ok3.1
  have hid := hf.hid
  (try simp only [guard_merge, or_merge, and_merge, or_pick, and_pick, guard_or, guard_and]); simp only [to_ob]
  unfold by6 bd6
  simp only [Bool.false_eq_true, if_true, if_false]
  unfold bh6 at ok6
  simp only [Bool.false_eq_true, if_true, if_false] at ok6
  have b1 := ev_b61 hS (n + 1) (x := pt) (by omega) (by omega)
  have b2 := ev_b62 hS (n + 1) (x := at') (by omega) (by omega)
  have b3 := ev_b64 hS (n + 1) (x := id) (by omega) (by omega)
  have b4 := ev_b61 hS (n + 1) (x := ho) (by omega) (by omega)
  obtain ⟨cl, rfl⟩ := Int.eq_ofNat_of_zero_le a1
  obtain ⟨fl, rfl⟩ := Int.eq_ofNat_of_zero_le a3
  have b5 := ev_b64 hS (n + 1) (x := ((1610612736 + cl * 1048576 + fl : Nat) : Int)) (by omega) (by omega)
  have w1 : IntKind.i64.wrap id = id := wrap_id (by omega) (by omega)
  have w2 : IntKind.i64.wrap (at' + 1) = at' + 1 := wrap_id (by omega) (by omega)
  have w3 : IntKind.i64.wrap ((ex.length : Int) - 1) = (ex.length : Int) - 1 := wrap_id (by omega) (by omega)
  have w4 : IntKind.i64.wrap ((cl : Int) * 2 ^ min 20 64) = ((cl * 1048576 : Nat) : Int) := by rw [show min 20 64 = 20 from rfl, wrap_id (by omega) (by omega)]; omega
  have w5 : bitsOf .or .i64 1610612736 ((cl * 1048576 : Nat) : Int) = ((1610612736 + cl * 1048576 : Nat) : Int) := by
    rw [show (1610612736 : Int) = ((1610612736 : Nat) : Int) from rfl, bits_or_nat (by decide) (by simp [IntKind.max, IntKind.signed, IntKind.bits]; omega), or6a (by omega)]
  have w6 : bitsOf .or .i64 ((1610612736 + cl * 1048576 : Nat) : Int) (fl : Int) = ((1610612736 + cl * 1048576 + fl : Nat) : Int) := by
    rw [bits_or_nat (by simp [IntKind.max, IntKind.signed, IntKind.bits]; omega) (by simp [IntKind.max, IntKind.signed, IntKind.bits]; omega), or6b (by omega) (by omega)]
  have hl := beB_len
  have m0 : ∀ k : Nat, k ≤ 1000000 → k ≤ maxStr := fun k h => by unfold maxStr; omega
  have m2 : 2 ≤ maxStr := m0 _ (by decide)
  have m4 : 4 ≤ maxStr := m0 _ (by decide)
  have m6 : 6 ≤ maxStr := m0 _ (by decide)
  have m7 : 7 ≤ maxStr := m0 _ (by decide)
  have m8 : 8 ≤ maxStr := m0 _ (by decide)
  have m24 : 24 ≤ maxStr := m0 _ (by decide)
  have m40 : 40 ≤ maxStr := m0 _ (by decide)
  have mda : 8 + da.length ≤ maxStr := m0 _ (by omega)
  have ht1 : fr.take 16 = fr := List.take_of_length_le (by omega)
  have ht2 : to.take 16 = to := List.take_of_length_le (by omega)
  simp only [go_sem, ↓reduceIte, reduceCtorEq, upd_ne, back_new (no_at), Nat.reduceAdd, Nat.reduceEqDiff, Nat.reduceMul, Nat.reduceSub, Nat.reduceLeDiff, Nat.reduceLT, Int.reduceToNat, Int.reduceLE, Int.reduceLT, Int.reduceEq, UInt8.reduceOfNat, List.getElem?_map, Int.toNat_natCast, ↓e_sadd, hw, c, hfr, hto, w3, List.length_map]
  generalize hB : da = B at *
  have hBl : B.length ≤ 65535 := by omega
  have hBs : szE ex + B.length ≤ 65535 := by omega
  have hNr : 0 ≤ (pt : Int) ∧ (pt : Int) ≤ 255 := by omega
  refine while_rule (fun k q => ∃ i : Nat, q = ([.str (exB (ex.drop i) pt B), .int .i64 (nxE (ex.drop i) pt), .int .i64 ((i : Int) - 1)], noSlots) ∧ i ≤ ex.length ∧ k = i) ex.length ⟨ex.length, by rw [List.drop_eq_nil_of_le (Nat.le_refl _)]; rfl, Nat.le_refl _, rfl⟩ ?_
  rintro k q ⟨i, rfl, hi, rfl⟩
  simp only [go_sem, ↓reduceIte, reduceCtorEq, upd_ne, back_new (no_at), Nat.reduceAdd, Nat.reduceEqDiff, Nat.reduceMul, Nat.reduceSub, Nat.reduceLeDiff, Nat.reduceLT, Int.reduceToNat, Int.reduceLE, Int.reduceLT, Int.reduceEq, UInt8.reduceOfNat]
  refine nxt_ite (fun h => ?_) (fun h => ?_)
  · obtain ⟨j, rfl⟩ : ∃ j, k = j + 1 := ⟨k - 1, by omega⟩
    have hlt : j < ex.length := by omega
    obtain ⟨e, he⟩ : ∃ e, ex[j]? = some e := ⟨ex[j], by simp [hlt]⟩
    have hd := drop_ex he
    have hem := List.mem_of_getElem? he
    have heb := hfb e hem
    have hnr := nxE_rg (p := pt) (kB_drop (i := j + 1) hkb) hNr
    have hxl := exB_len (ex.drop (j + 1)) pt B
    have hsz := szE_drop ex (j + 1)
    have hsz2 := szE_drop ex j
    rw [hd] at hsz2
    simp only [szE] at hsz2
    have j1 : ((j + 1 : Nat) : Int) - 1 = (j : Int) := by omega
    have j2 : IntKind.i64.wrap ((j : Int) - 1) = (j : Int) - 1 := wrap_id (by omega) (by omega)
    have j3 : IntKind.i64.wrap (Int.tdiv (e.2.length : Int) 8) = ((e.2.length / 8 : Nat) : Int) := by
      rw [show Int.tdiv (e.2.length : Int) 8 = ((e.2.length / 8 : Nat) : Int) from rfl, wrap_id (by omega) (by omega)]
    have c1 := ev_b61 hS (n + 1) (x := nxE (ex.drop (j + 1)) pt) (by omega) (by omega)
    have c2 := ev_b61 hS (n + 1) (x := ((e.2.length / 8 : Nat) : Int)) (by omega) (by omega)
    have m1 : 2 + e.2.length ≤ maxStr := m0 _ (by omega)
    have m3 : 2 + (e.2.length + (szE (ex.drop (j + 1)) + B.length)) ≤ maxStr := m0 _ (by omega)
    have m5 : 2 + e.2.length + (szE (ex.drop (j + 1)) + B.length) ≤ maxStr := m0 _ (by omega)
    have m9 : 1 + (1 + e.2.length) ≤ maxStr := m0 _ (by omega)
    have m10 : 1 + (1 + (e.2.length + (szE (ex.drop (j + 1)) + B.length))) ≤ maxStr := m0 _ (by omega)
    have m11 : 1 + (1 + e.2.length) + (szE (ex.drop (j + 1)) + B.length) ≤ maxStr := m0 _ (by omega)
    simp only [Int.toNat_natCast] at c2
    simp only [go_sem, ↓reduceIte, reduceCtorEq, upd_ne, back_new (no_at), Nat.reduceAdd, Nat.reduceEqDiff, Nat.reduceMul, Nat.reduceSub, Nat.reduceLeDiff, Nat.reduceLT, Int.reduceToNat, Int.reduceLE, Int.reduceLT, Int.reduceEq, UInt8.reduceOfNat, List.getElem?_map, Int.toNat_natCast, ↓e_sadd, he, j1, j2, j3, c1, c2, hl, hxl, m1, m2, m3, m5, m9, m10, m11, List.append_assoc, List.length_append]
    exact ⟨j, by omega, j, by rw [hd]; rfl, by omega, rfl⟩
  · obtain rfl : k = 0 := by omega
    rw [List.drop_zero]
    have hxl := exB_len ex pt B
    have hnr := nxE_rg (p := pt) hkb hNr
    have c1 := ev_b61 hS (n + 1) (x := nxE ex pt) (by omega) (by omega)
    have c2 := ev_b62 hS (n + 1) (x := ((szE ex + B.length : Nat) : Int)) (by omega) (by omega)
    simp only [Int.toNat_natCast] at c2 b5
    have m1 : 40 + (szE ex + B.length) ≤ maxStr := m0 _ (by omega)
    have m3 : 4 + (2 + (1 + (1 + (16 + (16 + (szE ex + B.length)))))) ≤ maxStr := m0 _ (by omega)
    have m5 : 4 + (2 + (1 + (1 + 16))) ≤ maxStr := m0 _ (by omega)
    have m9 : 4 + (2 + (1 + (1 + (16 + 16)))) ≤ maxStr := m0 _ (by omega)
    simp only [go_sem, ↓reduceIte, reduceCtorEq, upd_ne, back_new (no_at), Nat.reduceAdd, Nat.reduceEqDiff, Nat.reduceMul, Nat.reduceSub, Nat.reduceLeDiff, Nat.reduceLT, Int.reduceToNat, Int.reduceLE, Int.reduceLT, Int.reduceEq, UInt8.reduceOfNat, List.getElem?_map, Int.toNat_natCast, ↓e_sadd, Nxt, exIf, hfr, hto, ht1, ht2, toBytes_byteLV, b4, b5, c1, c2, w4, w5, w6, hl, hxl, m1, m2, m3, m4, m5, m6, m7, m8, m9, m24, m40, List.append_assoc, List.length_append, Int.toNat_natCast]
theorem ev_bytes6 {cl fl ho : Int} {fr to : List UInt8} {ex : List (Int × List UInt8)} {fg : Bool} {id at' : Int} {mo : Bool} {pt : Int} {da : List UInt8} (hf : FitIp6 cl fl ho fr to ex id at' pt da) :
    S.ev (n + 4) id_ip6_Bytes [ip6LV cl fl ho fr to (extsLV ex) fg id at' mo pt da] none = some (.tup [.str (by6R cl fl ho fr to ex fg id at' mo pt da), fE (why6 cl fl ho ex fg id at' mo pt da)], none) := by
  unfold by6R
  by_cases c : why6 cl fl ho ex fg id at' mo pt da = 0
  · rw [if_pos c, c]
    cases fg
    · exact ev_bytes6_n hS n hf c
    · cases mo
      · exact ev_bytes6_tf hS n hf c
      · exact ev_bytes6_tt hS n hf c
  · rw [if_neg c, Sys.step hS.h_ip6_Bytes, F_ip6_Bytes_eq]
    unfold F_ip6_Bytes
    have hfr := hf.hfr
    have hto := hf.hto
    have hw := ev_why6 hS n (cl := cl) (fl := fl) (ho := ho) (fr := fr) (to := to) (ex := ex) (fg := fg) (id := id) (at' := at') (mo := mo) (pt := pt) (da := da) hfr hto hf.hex (fun e he => (hf.hexs e he).2) hf.hda
    have hfa := ev_fault6 hS (n + 2)
    (try simp only [guard_merge, or_merge, and_merge, or_pick, and_pick, guard_or, guard_and]); simp only [to_ob]
    simp only [go_sem, ↓reduceIte, reduceCtorEq, upd_ne, back_new (no_at), Nat.reduceAdd, Nat.reduceEqDiff, Nat.reduceMul, Nat.reduceSub, Nat.reduceLeDiff, Nat.reduceLT, Int.reduceToNat, Int.reduceLE, Int.reduceLT, Int.reduceEq, UInt8.reduceOfNat, hw, hfa, c, hfr, hto, fE]
end
end Go.Ev

/- Layer 4, plain: how long chains are. -/
namespace Go.Ev
set_option linter.unusedSimpArgs false
set_option linter.unusedVariables false
set_option maxRecDepth 10000
set_option maxHeartbeats 8000000
theorem chC_rest : ∀ (k : Nat) (f : Bool) (nx : Int) (u : List UInt8), (chC k f nx u).2.2.2.length ≤ u.length
  | 0, f, nx, u => by unfold chC; split <;> (try split) <;> simp
  | k + 1, f, nx, u => by
    unfold chC
    split
    · split
      · simp
      · split
        · simp
        · have := chC_rest k false ((bAt u 0 : Nat) : Int) (u.drop (sz6 u))
          rw [List.length_drop] at this
          simp only
          split <;> (try simp only) <;> omega
    · simp
theorem chC_len : ∀ (k : Nat) (f : Bool) (nx : Int) (u : List UInt8), (chC k f nx u).2.1.length ≤ k
  | 0, f, nx, u => by unfold chC; split <;> (try split) <;> simp
  | k + 1, f, nx, u => by
    unfold chC
    split
    · split
      · simp
      · split
        · simp
        · have := chC_len k false ((bAt u 0 : Nat) : Int) (u.drop (sz6 u))
          simp only
          split <;> (try simp only [List.length_cons]) <;> omega
    · simp
end Go.Ev

/- Layer 4: what is parsed, as a value; great packets. -/
namespace Go.Ev
set_option linter.unusedSimpArgs false
set_option linter.unusedVariables false
set_option maxRecDepth 10000
set_option maxHeartbeats 8000000
theorem pfr6_len {s : List UInt8} (h : 40 ≤ s.length) : (pfr6 s).length = 16 := by unfold pfr6; simp; omega
theorem pto6_len {s : List UInt8} (h : 40 ≤ s.length) : (pto6 s).length = 16 := by unfold pto6; simp; omega
theorem pK6_40 {s : List UInt8} (h : pK6 s = 0) : 40 ≤ s.length := by
  unfold pK6 at h
  split at h
  · simp at h
  · omega
theorem r6_ag {s : List UInt8} : LV.isAgg (pLV6 s) = true := by unfold pLV6 mk6; split <;> (try split) <;> exact Eq.trans rfl rfl
theorem r6_st {s : List UInt8} : stor (pLV6 s) = true := by unfold pLV6 mk6; split <;> (try split) <;> exact Eq.trans rfl rfl
theorem r6_pl {s : List UInt8} : plainRes (pLV6 s) = true := by unfold pLV6 mk6; split <;> (try split) <;> exact Eq.trans rfl rfl
theorem r6_fl {s : List UInt8} : flatLen (pLV6 s) = 42 := by
  unfold pLV6 mk6
  split
  · rename_i h
    have h := pK6_40 h
    split <;> simp only [go_sem, ↓reduceIte, reduceCtorEq, upd_ne, back_new (no_at), Nat.reduceAdd, Nat.reduceEqDiff, Nat.reduceMul, Nat.reduceSub, Nat.reduceLeDiff, Nat.reduceLT, Int.reduceToNat, Int.reduceLE, Int.reduceLT, Int.reduceEq, UInt8.reduceOfNat, pfr6_len h, pto6_len h]
  · simp only [go_sem, ↓reduceIte, reduceCtorEq, upd_ne, back_new (no_at), Nat.reduceAdd, Nat.reduceEqDiff, Nat.reduceMul, Nat.reduceSub, Nat.reduceLeDiff, Nat.reduceLT, Int.reduceToNat, Int.reduceLE, Int.reduceLT, Int.reduceEq, UInt8.reduceOfNat]
theorem r6_ps {s : List UInt8} : psl (pLV6 s) = some (pLV6 s) := by
  unfold pLV6 mk6
  split
  · split <;> simp only [go_sem, ↓reduceIte, reduceCtorEq, upd_ne, back_new (no_at), Nat.reduceAdd, Nat.reduceEqDiff, Nat.reduceMul, Nat.reduceSub, Nat.reduceLeDiff, Nat.reduceLT, Int.reduceToNat, Int.reduceLE, Int.reduceLT, Int.reduceEq, UInt8.reduceOfNat]
  · simp only [go_sem, ↓reduceIte, reduceCtorEq, upd_ne, back_new (no_at), Nat.reduceAdd, Nat.reduceEqDiff, Nat.reduceMul, Nat.reduceSub, Nat.reduceLeDiff, Nat.reduceLT, Int.reduceToNat, Int.reduceLE, Int.reduceLT, Int.reduceEq, UInt8.reduceOfNat]
theorem r6_none {s : List UInt8} (h : ¬ pK6 s = 0) : pLV6 s = z6LV := by unfold pLV6; rw [if_neg h]
attribute [go_sem ↓] r6_ag r6_st r6_pl r6_fl r6_ps
def grN : List (Int × List UInt8) → Nat
  | [] => 0
  | e :: l => min e.2.length 70001 + grN l
def greatS (ex : List (Int × List UInt8)) (da : List UInt8) : Bool := decide (20 < ex.length) || decide (70000 < da.length + grN (ex.take 21))
theorem grN_app : ∀ a b, grN (a ++ b) = grN a + grN b
  | [], b => by simp [grN]
  | e :: a, b => by simp only [List.cons_append, grN, grN_app a b]; omega
theorem grN_le : ∀ (ex : List (Int × List UInt8)), grN ex ≤ 70001 * ex.length
  | [] => by simp [grN]
  | e :: l => by have := grN_le l; simp only [grN, List.length_cons]; omega
theorem grN_mem : ∀ (ex : List (Int × List UInt8)), grN ex ≤ 70000 → ∀ e ∈ ex, e.2.length ≤ 70000
  | [], _, e, he => by simp at he
  | x :: l, h, e, he => by
    simp only [grN] at h
    rcases List.mem_cons.1 he with rfl | he
    · omega
    · exact grN_mem l (by omega) e he
theorem grN_sz : ∀ (ex : List (Int × List UInt8)), grN ex ≤ 70000 → szE ex = grN ex + 2 * ex.length
  | [], _ => by simp [grN, szE]
  | e :: l, h => by
    simp only [grN] at h
    have := grN_sz l (by omega)
    simp only [grN, szE, List.length_cons]
    omega
theorem not_great {ex : List (Int × List UInt8)} {da : List UInt8} (h : greatS ex da = false) : SmE ex ∧ da.length ≤ 70000 ∧ szE ex + da.length ≤ 70040 := by
  unfold greatS at h
  simp only [Bool.or_eq_false_iff, decide_eq_false_iff_not] at h
  obtain ⟨h1, h2⟩ := h
  rw [List.take_of_length_le (by omega)] at h2
  have h3 := grN_sz ex (by omega)
  exact ⟨⟨by omega, grN_mem ex (by omega)⟩, by omega, by omega⟩
end Go.Ev

/- Layer 4, plain: chains; a packet is parsed from its bytes. -/
namespace Go.Ev
set_option linter.unusedSimpArgs false
set_option linter.unusedVariables false
set_option maxRecDepth 4000
set_option maxHeartbeats 4000000
/-! Chains, one step. -/
theorem chC_no {k : Nat} {f : Bool} {n : Int} {s : List UInt8} (h : ¬ isE n) : chC k f n s = (0, [], n, s) := by
  cases k <;> rw [chC, if_neg h]
theorem chC_yes {k : Nat} {f : Bool} {n : Int} {s : List UInt8} (h1 : isE n) (h2 : ¬ (n = 0 ∧ f = false)) (h3 : ¬ s.length < sz6 s) (h4 : (chC k false ((bAt s 0 : Nat) : Int) (s.drop (sz6 s))).1 = 0) :
    chC (k + 1) f n s = (0, (n, (s.drop 2).take (sz6 s - 2)) :: (chC k false ((bAt s 0 : Nat) : Int) (s.drop (sz6 s))).2.1, (chC k false ((bAt s 0 : Nat) : Int) (s.drop (sz6 s))).2.2) := by
  rw [chC, if_pos h1, if_neg h2, if_neg h3]
  simp only [h4, if_true]
theorem chC_inv {k : Nat} {f : Bool} {n : Int} {s : List UInt8} (h : (chC k f n s).1 = 0) (h1 : isE n) :
    ∃ j, k = j + 1 ∧ ¬ (n = 0 ∧ f = false) ∧ ¬ s.length < sz6 s ∧ (chC j false ((bAt s 0 : Nat) : Int) (s.drop (sz6 s))).1 = 0 := by
  cases k with
  | zero =>
    rw [chC, if_pos h1] at h
    split at h <;> simp at h
  | succ j =>
    rw [chC, if_pos h1] at h
    split at h
    · simp at h
    rename_i h2
    split at h
    · simp at h
    rename_i h3
    simp only at h
    split at h
    · rename_i h4
      exact ⟨j, rfl, h2, h3, h4⟩
    · rename_i h4
      exact absurd h h4
/-- What is a chain with less is the same with more. -/
theorem chC_more : ∀ (k : Nat) (f : Bool) (n : Int) (s : List UInt8), (chC k false n s).1 = 0 → chC (k + 1) f n s = chC k false n s
  | 0, f, n, s, h => by
    by_cases h1 : isE n
    · obtain ⟨j, hj, _⟩ := chC_inv h h1
      omega
    · rw [chC_no h1, chC_no h1]
  | k + 1, f, n, s, h => by
    by_cases h1 : isE n
    · obtain ⟨j, hj, h2, h3, h4⟩ := chC_inv h h1
      obtain rfl : k = j := by omega
      have ih := chC_more k false _ _ h4
      rw [chC_yes h1 h2 h3 h4, chC_yes h1 (fun q => h2 ⟨q.1, rfl⟩) h3 (by rw [ih]; exact h4), ih]
    · rw [chC_no h1, chC_no h1]
theorem chC_first {k : Nat} {n : Int} {s : List UInt8} (h : (chC k false n s).1 = 0) : ∀ e l, (chC k false n s).2.1 = e :: l → e.1 ≠ 0 := by
  intro e l hl
  by_cases h1 : isE n
  · obtain ⟨j, rfl, h2, h3, h4⟩ := chC_inv h h1
    rw [chC_yes h1 h2 h3 h4] at hl
    simp only [List.cons.injEq] at hl
    rw [← hl.1]
    exact fun q => h2 ⟨q, rfl⟩
  · rw [chC_no h1] at hl
    simp at hl
theorem chC_less : ∀ (k : Nat) (f : Bool) (n : Int) (s : List UInt8), (chC (k + 1) f n s).1 = 0 → (chC (k + 1) f n s).2.1.length ≤ k → (∀ e l, (chC (k + 1) f n s).2.1 = e :: l → e.1 ≠ 0) → chC k false n s = chC (k + 1) f n s
  | 0, f, n, s, h, hl, hf => by
    by_cases h1 : isE n
    · obtain ⟨j, hj, h2, h3, h4⟩ := chC_inv h h1
      obtain rfl : j = 0 := by omega
      rw [chC_yes h1 h2 h3 h4] at hl
      simp at hl
    · rw [chC_no h1, chC_no h1]
  | k + 1, f, n, s, h, hl, hf => by
    by_cases h1 : isE n
    · obtain ⟨j, hj, h2, h3, h4⟩ := chC_inv h h1
      obtain rfl : j = k + 1 := by omega
      rw [chC_yes h1 h2 h3 h4] at hl hf
      have hn : n ≠ 0 := hf _ _ rfl
      have ih := chC_less k false _ _ h4 (by simpa using hl) (chC_first h4)
      rw [chC_yes h1 h2 h3 h4, chC_yes h1 (fun q => hn q.1) h3 (by rw [ih]; exact h4), ih]
    · rw [chC_no h1, chC_no h1]
/-- What a chain says of its parts. -/
theorem chC_parts : ∀ (k : Nat) (f : Bool) (n : Int) (s : List UInt8), 0 ≤ n ∧ n ≤ 255 → (chC k f n s).1 = 0 →
    nxE (chC k f n s).2.1 (chC k f n s).2.2.1 = n ∧ szE (chC k f n s).2.1 + (chC k f n s).2.2.2.length = s.length ∧ kB (chC k f n s).2.1 = true ∧ fB f (chC k f n s).2.1 = true ∧
    ¬ isE (chC k f n s).2.2.1 ∧ 0 ≤ (chC k f n s).2.2.1 ∧ (chC k f n s).2.2.1 ≤ 255 := by
  intro k
  induction k with
  | zero =>
    intro f n s hn h
    by_cases h1 : isE n
    · obtain ⟨j, hj, _⟩ := chC_inv h h1
      omega
    · rw [chC_no h1]
      refine ⟨rfl, ?_, rfl, ?_, h1, hn.1, hn.2⟩
      · simp [szE]
      · cases f <;> rfl
  | succ k ih =>
    intro f n s hn h
    by_cases h1 : isE n
    · obtain ⟨j, hj, h2, h3, h4⟩ := chC_inv h h1
      obtain rfl : k = j := by omega
      have hb := bAt_le s 0
      have hb1 := bAt_le s 1
      obtain ⟨i1, i2, i3, i4, i5, i6, i7⟩ := ih false ((bAt s 0 : Nat) : Int) (s.drop (sz6 s)) ⟨by omega, by omega⟩ h4
      rw [List.length_drop] at i2
      have h5 : sz6 s ≤ s.length := by omega
      have h6 : 8 ≤ sz6 s := by unfold sz6; omega
      have hlen : ((s.drop 2).take (sz6 s - 2)).length = sz6 s - 2 := by rw [List.length_take, List.length_drop]; omega
      rw [chC_yes h1 h2 h3 h4]
      refine ⟨rfl, ?_, ?_, ?_, i5, i6, i7⟩
      · simp only [szE, hlen]; omega
      · simp only [kB, List.all_cons, decide_eq_true h1, Bool.true_and]; exact i3
      · simp only [fB, Bool.and_eq_true, decide_eq_true_eq]
        refine ⟨⟨by rw [hlen]; unfold sz6; omega, by rw [hlen]; unfold sz6; omega, fun q => ?_⟩, i4⟩
        cases f
        · exact absurd ⟨q, rfl⟩ h2
        · rfl
    · rw [chC_no h1]
      refine ⟨rfl, ?_, rfl, ?_, h1, hn.1, hn.2⟩
      · simp [szE]
      · cases f <;> rfl
theorem beB4 (x : Nat) : beB 4 x = [UInt8.ofNat (x / 16777216), UInt8.ofNat (x / 65536), UInt8.ofNat (x / 256), UInt8.ofNat x] := by simp [beB, List.range_succ]
theorem numN_beB4 {x : Nat} (h : x < 4294967296) : numN (beB 4 x) = x := by
  rw [beB4]
  simp only [numN, List.foldl_cons, List.foldl_nil, UInt8.toNat_ofNat']
  omega
theorem beB4_numN (a b c d : UInt8) : beB 4 (numN [a, b, c, d]) = [a, b, c, d] := by
  have ha := a.toNat_lt; have hb := b.toNat_lt; have hc := c.toNat_lt; have hd := d.toNat_lt
  rw [beB4]
  simp only [numN, List.foldl_cons, List.foldl_nil]
  congr 1
  · apply UInt8.toNat_inj.1; rw [UInt8.toNat_ofNat']; omega
  congr 1
  · apply UInt8.toNat_inj.1; rw [UInt8.toNat_ofNat']; omega
  congr 1
  · apply UInt8.toNat_inj.1; rw [UInt8.toNat_ofNat']; omega
  congr 1
  apply UInt8.toNat_inj.1; rw [UInt8.toNat_ofNat']; omega
/-- A chain's bytes are that chain. -/
theorem chain_exB : ∀ (l : List (Int × List UInt8)) (k : Nat) (f : Bool) (p : Int) (b : List UInt8), kB l = true → fB f l = true → l.length ≤ k → ¬ isE p → 0 ≤ p ∧ p ≤ 255 → chC k f (nxE l p) (exB l p b) = (0, l, p, b)
  | [], k, f, p, b, _, _, _, hp, _ => chC_no hp
  | e :: l, k, f, p, b, hk, hf, hl, hp, hr => by
    simp only [kB, List.all_cons, Bool.and_eq_true, decide_eq_true_eq] at hk
    simp only [fB, Bool.and_eq_true, decide_eq_true_eq] at hf
    obtain ⟨k, rfl⟩ : ∃ j, k = j + 1 := ⟨k - 1, by simp at hl; omega⟩
    have hk2 : kB l = true := hk.2
    have ih := chain_exB l k false p b hk2 hf.2 (by simpa using hl) hp hr
    have hn := nxE_rg hk2 hr
    obtain ⟨⟨f1, f2, f3⟩, _⟩ := hf
    have h0 : bAt (exB (e :: l) p b) 0 = (nxE l p).toNat := by
      simp only [exB, beB1, List.cons_append, List.nil_append, bAt0, UInt8.toNat_ofNat']; omega
    have h1 : bAt (exB (e :: l) p b) 1 = e.2.length / 8 := by
      simp only [exB, beB1, List.cons_append, List.nil_append, bAt0, bAts, UInt8.toNat_ofNat']; omega
    have hz : sz6 (exB (e :: l) p b) = e.2.length + 2 := by unfold sz6; rw [h1]; omega
    have hlen := exB_len (e :: l) p b
    simp only [szE] at hlen
    have hd : (exB (e :: l) p b).drop (sz6 (exB (e :: l) p b)) = exB l p b := by
      rw [hz]; simp only [exB, beB1, List.cons_append, List.nil_append, List.drop_succ_cons]
      exact List.drop_left' rfl
    have ht : ((exB (e :: l) p b).drop 2).take (sz6 (exB (e :: l) p b) - 2) = e.2 := by
      rw [hz]; simp only [exB, beB1, List.cons_append, List.nil_append, List.drop_succ_cons, List.drop_zero]
      exact List.take_left' (by omega)
    have hi : ((bAt (exB (e :: l) p b) 0 : Nat) : Int) = nxE l p := by rw [h0]; omega
    have hc : chC k false ((bAt (exB (e :: l) p b) 0 : Nat) : Int) ((exB (e :: l) p b).drop (sz6 (exB (e :: l) p b))) = (0, l, p, b) := by rw [hd, hi, ih]
    show chC (k + 1) f e.1 (exB (e :: l) p b) = _
    rw [chC_yes hk.1 (fun q => by have := f3 q.1; rw [q.2] at this; simp at this) (by omega) (by rw [hc]), hc, ht]
theorem bd6_len {ex : List (Int × List UInt8)} {fg : Bool} {id at' : Int} {mo : Bool} {pt : Int} {da : List UInt8} : (bd6 ex fg id at' mo pt da).length = bh6 ex fg da := by
  unfold bd6 bh6
  cases fg
  · rw [if_neg Bool.false_ne_true, if_neg Bool.false_ne_true, exB_len]; omega
  · rw [if_pos rfl, if_pos rfl, exB_len]
    simp only [pcB, List.length_append, List.length_cons, beB_len]
    omega
theorem by6_len {cl fl ho : Int} {fr to : List UInt8} {ex : List (Int × List UInt8)} {fg : Bool} {id at' : Int} {mo : Bool} {pt : Int} {da : List UInt8} (hfr : fr.length = 16) (hto : to.length = 16) :
    (by6 cl fl ho fr to ex fg id at' mo pt da).length = 40 + bh6 ex fg da := by
  unfold by6
  simp only [List.length_append, beB_len, bd6_len, hfr, hto]
  omega
/-- A head's bytes. -/
def H6 (x n nx ho : Nat) : List UInt8 := [UInt8.ofNat (x / 16777216), UInt8.ofNat (x / 65536), UInt8.ofNat (x / 256), UInt8.ofNat x, UInt8.ofNat (n / 256), UInt8.ofNat n, UInt8.ofNat nx, UInt8.ofNat ho]
theorem by6_eq (cl fl ho : Int) (fr to : List UInt8) (ex : List (Int × List UInt8)) (fg : Bool) (id at' : Int) (mo : Bool) (pt : Int) (da : List UInt8) : by6 cl fl ho fr to ex fg id at' mo pt da =
    H6 (1610612736 + cl.toNat * 1048576 + fl.toNat) (bd6 ex fg id at' mo pt da).length (nxE ex (if fg = true then 44 else pt)).toNat ho.toNat ++ (fr ++ (to ++ bd6 ex fg id at' mo pt da)) := by
  unfold by6 H6
  simp only [beB1, beB2, beB4, List.cons_append, List.nil_append]
theorem head6 {x n nx ho : Nat} {fr to bd t : List UInt8} (hx : x < 4294967296) (hn : n ≤ 65535) (hnx : nx ≤ 255) (hho : ho ≤ 255) (hfr : fr.length = 16) (hto : to.length = 16) (hbd : bd.length = n)
    {Y : List UInt8} (hY : Y = H6 x n nx ho ++ (fr ++ (to ++ bd)) ++ t) :
    bAt Y 0 = x / 16777216 ∧ wAt Y 4 = n ∧ bAt Y 6 = nx ∧ bAt Y 7 = ho ∧ numN (Y.take 4) = x ∧ pfr6 Y = fr ∧ pto6 Y = to ∧ (Y.drop 40).take n = bd ∧ Y.length = 40 + n + t.length := by
  subst hY
  have e8 : ∀ u : List UInt8, (H6 x n nx ho ++ u).drop 8 = u := fun u => rfl
  refine ⟨?_, ?_, ?_, ?_, ?_, ?_, ?_, ?_, ?_⟩
  · simp only [H6, List.cons_append, List.nil_append, bAt0, UInt8.toNat_ofNat']; omega
  · simp only [H6, List.cons_append, List.nil_append, wAt0, wAts]; exact w16_beB (by omega)
  · simp only [H6, List.cons_append, List.nil_append, bAt0, bAts, UInt8.toNat_ofNat']; omega
  · simp only [H6, List.cons_append, List.nil_append, bAt0, bAts, UInt8.toNat_ofNat']; omega
  · rw [show (H6 x n nx ho ++ (fr ++ (to ++ bd)) ++ t).take 4 = beB 4 x by rw [beB4]; rfl]
    exact numN_beB4 hx
  · unfold pfr6
    rw [List.append_assoc, e8, List.append_assoc, List.take_left' hfr]
  · unfold pto6
    rw [List.append_assoc, show 24 = 8 + 16 by rfl, ← List.drop_drop, e8, List.append_assoc, List.drop_left' hfr, List.append_assoc, List.take_left' hto]
  · rw [List.append_assoc, show 40 = 8 + (16 + 16) by rfl, ← List.drop_drop, ← List.drop_drop, e8, List.append_assoc, List.drop_left' hfr, List.append_assoc, List.drop_left' hto, List.take_left' hbd]
  · simp only [H6, List.length_append, List.length_cons, List.length_nil]; omega
theorem piece6 {id a : Nat} {mo : Bool} {pt : Nat} {da : List UInt8} (hid : id < 4294967296) (ha : a ≤ 65528) (ha8 : a % 8 = 0) (hpt : pt ≤ 255) :
    bAt (pcB (id : Int) (a : Int) mo (pt : Int) da) 0 = pt ∧ fa6 (pcB (id : Int) (a : Int) mo (pt : Int) da) = a ∧ fm6 (pcB (id : Int) (a : Int) mo (pt : Int) da) = mo ∧ fi6 (pcB (id : Int) (a : Int) mo (pt : Int) da) = id ∧
    (pcB (id : Int) (a : Int) mo (pt : Int) da).drop 8 = da ∧ (pcB (id : Int) (a : Int) mo (pt : Int) da).length = 8 + da.length := by
  have hw : wAt (pcB (id : Int) (a : Int) mo (pt : Int) da) 2 = a + if mo = true then 1 else 0 := by
    simp only [pcB, beB1, beB2, List.cons_append, List.nil_append, wAt0, wAts, Int.toNat_natCast]
    exact w16_beB (by split <;> omega)
  refine ⟨?_, ?_, ?_, ?_, ?_, ?_⟩
  · simp only [pcB, beB1, List.cons_append, List.nil_append, bAt0, UInt8.toNat_ofNat', Int.toNat_natCast]; omega
  · unfold fa6; rw [hw]; split <;> omega
  · unfold fm6; rw [hw]
    cases mo
    · rw [if_neg Bool.false_ne_true]; exact decide_eq_false (by omega)
    · rw [if_pos rfl]; exact decide_eq_true (by omega)
  · unfold fi6
    rw [show ((pcB (id : Int) (a : Int) mo (pt : Int) da).drop 4).take 4 = beB 4 id by simp only [pcB, beB1, beB2, beB4, List.cons_append, List.nil_append, Int.toNat_natCast]; rfl]
    exact numN_beB4 hid
  · simp only [pcB, beB1, beB2, beB4, List.cons_append, List.nil_append]; rfl
  · simp only [pcB, List.length_append, List.length_cons, beB_len]; omega
theorem parse_by6 {cl fl ho : Int} {fr to : List UInt8} {ex : List (Int × List UInt8)} {fg : Bool} {id at' : Int} {mo : Bool} {pt : Int} {da : List UInt8} (ok : Ok6 cl fl ho ex fg id at' mo pt da) (hid : 0 ≤ id ∧ id ≤ 4294967295)
    (hfr : fr.length = 16) (hto : to.length = 16) (t : List UInt8) :
    pK6 (by6 cl fl ho fr to ex fg id at' mo pt da ++ t) = 0 ∧ pLV6 (by6 cl fl ho fr to ex fg id at' mo pt da ++ t) = ip6LV cl fl ho fr to (extsLV ex) fg id at' mo pt da ∧ wAt (by6 cl fl ho fr to ex fg id at' mo pt da ++ t) 4 = bh6 ex fg da := by
  obtain ⟨⟨⟨a1, a2⟩, ⟨a3, a4⟩, ⟨a5, a6⟩, ⟨a7, a8⟩, ⟨a9, a10⟩, a11⟩, ⟨b1, b2⟩, ⟨c1, c2⟩, d1, d2, d3⟩ := ok
  obtain ⟨cl, rfl⟩ := Int.eq_ofNat_of_zero_le a1
  obtain ⟨fl, rfl⟩ := Int.eq_ofNat_of_zero_le a3
  obtain ⟨ho, rfl⟩ := Int.eq_ofNat_of_zero_le a5
  obtain ⟨pt, rfl⟩ := Int.eq_ofNat_of_zero_le a7
  obtain ⟨a, rfl⟩ := Int.eq_ofNat_of_zero_le a9
  obtain ⟨id, rfl⟩ := Int.eq_ofNat_of_zero_le hid.1
  have a11 : ((a % 8 : Nat) : Int) = 0 := a11
  have hbl := bd6_len (ex := ex) (fg := fg) (id := id) (at' := a) (mo := mo) (pt := pt) (da := da)
  have hp : ¬ isE (if fg = true then 44 else (pt : Int)) ∧ 0 ≤ (if fg = true then 44 else (pt : Int)) ∧ (if fg = true then 44 else (pt : Int)) ≤ 255 := by
    cases fg
    · rw [if_neg Bool.false_ne_true]; exact ⟨(b2 rfl).1, by omega, by omega⟩
    · rw [if_pos rfl]; exact ⟨by decide, by omega, by omega⟩
  have hnx := nxE_rg b1 hp.2
  have heq := by6_eq cl fl ho fr to ex fg id a mo pt da
  have hch := fun b => chain_exB ex 8 true (if fg = true then 44 else (pt : Int)) b b1 c1 d1 hp.1 hp.2
  generalize hY : by6 (cl : Int) fl ho fr to ex fg id a mo pt da ++ t = Y
  rw [heq] at hY
  simp only [Int.toNat_natCast] at hY
  obtain ⟨e1, e2, e3, e4, e5, e6, e7, e8, e9⟩ := head6 (by omega) (by omega) (by omega) (by omega) hfr hto rfl hY.symm
  rw [hbl] at e2 e9
  have hk : k6 Y = (0, ex, (if fg = true then 44 else (pt : Int)), (if fg = true then pcB id a mo pt da else da)) := by
    unfold k6
    rw [e2, ← hbl, e8, e3, Int.toNat_of_nonneg hnx.1]
    unfold bd6
    cases fg
    · exact hch _
    · exact hch _
  have hR : kR6 (k6 Y) = 0 := by
    rw [hk]
    unfold kR6
    rw [if_neg (by simp)]
    cases fg
    · rw [if_neg Bool.false_ne_true, if_pos (by have := (b2 rfl).2; simpa using this)]
    · obtain ⟨p1, p2, p3, p4, p5, p6⟩ := piece6 (id := id) (a := a) (mo := mo) (pt := pt) (da := da) (by omega) (by omega) (by omega) (by omega)
      simp only [if_true]
      rw [if_neg (by simp)]
      unfold kF6
      rw [if_neg (by omega), p3, p2, p5, if_pos]
      rw [if_pos rfl] at c2
      exact ⟨c2, by omega⟩
  have hK : pK6 Y = 0 := by
    unfold pK6
    rw [if_neg (by omega), if_neg (by omega), if_neg (by omega), hR]
  refine ⟨hK, ?_, e2⟩
  unfold pLV6
  rw [if_pos hK, hk]
  have q1 : pcl6 Y = (cl : Int) := by unfold pcl6; rw [e5]; omega
  have q2 : pfl6 Y = (fl : Int) := by unfold pfl6; rw [e5]; omega
  unfold mk6
  rw [q1, q2, e4, e6, e7]
  cases fg
  · simp only [Bool.false_eq_true, if_false] at c2 ⊢
    have hpt := (b2 rfl).2
    obtain ⟨i1, i2, i3⟩ := c2
    rw [if_neg hpt, i1, i2, i3]
  · obtain ⟨p1, p2, p3, p4, p5, p6⟩ := piece6 (id := id) (a := a) (mo := mo) (pt := pt) (da := da) (by omega) (by omega) (by omega) (by omega)
    simp only [if_true]
    rw [p1, p2, p3, p4, p5]

theorem pK6_40' {s : List UInt8} (h : pK6 s = 0) : 40 ≤ s.length := by
  unfold pK6 at h
  split at h
  · simp at h
  · omega
theorem getD_take6 {s : List UInt8} {i m : Nat} (h : i < m) : (s.take m).getD i 0 = s.getD i 0 := by
  rw [List.getD_eq_getElem?_getD, List.getD_eq_getElem?_getD, List.getElem?_take_of_lt h]
theorem cut_none6 {Y : List UInt8} {m : Nat} (hw : 40 + wAt Y 4 = Y.length) (hm : m < Y.length) : ¬ pK6 (Y.take m) = 0 := by
  intro h
  have h40 := pK6_40' h
  rw [List.length_take] at h40
  have hw2 : wAt (Y.take m) 4 = wAt Y 4 := by unfold wAt; rw [getD_take6 (by omega), getD_take6 (by omega)]
  unfold pK6 at h
  rw [if_neg (by rw [List.length_take]; omega)] at h
  split at h
  · simp at h
  split at h
  · simp at h
  · rename_i h3
    rw [hw2, List.length_take] at h3
    omega
theorem why6_hop {cl fl ho : Int} {ex : List (Int × List UInt8)} {fg : Bool} {id at' : Int} {mo : Bool} {pt : Int} {da : List UInt8} (h : why6 cl fl ho ex fg id at' mo pt da = 0) {t : Int} (ht : 0 ≤ t ∧ t ≤ 255) : why6 cl fl t ex fg id at' mo pt da = 0 := by
  obtain ⟨⟨o1, o2, o3, o4, o5, o6⟩, r2, r3, r4, r5, r6⟩ := why6_zero.1 h
  exact why6_zero.2 ⟨⟨o1, o2, ht, o4, o5, o6⟩, r2, r3, r4, r5, r6⟩

/-- What is parsed has bytes. -/
structure Par6 (s : List UInt8) : Prop where
  h40 : 40 ≤ s.length
  hv : bAt s 0 / 16 = 6
  hl : 40 + wAt s 4 ≤ s.length
  hk : (k6 s).1 = 0
  hf : (k6 s).2.2.1 = 44 → 8 ≤ (k6 s).2.2.2.length ∧ okF6 (fm6 (k6 s).2.2.2) (fa6 (k6 s).2.2.2) ((k6 s).2.2.2.drop 8)
theorem pK6_zero {s : List UInt8} (h : pK6 s = 0) : Par6 s := by
  unfold pK6 kR6 kF6 at h
  split at h
  · simp at h
  rename_i h1
  split at h
  · simp at h
  rename_i h2
  split at h
  · simp at h
  rename_i h3
  split at h
  · rename_i h4; exact absurd h h4
  rename_i h4
  refine ⟨by omega, by omega, by omega, Classical.byContradiction fun q => h4 q, ?_⟩
  intro h5
  rw [if_neg (fun q => q h5)] at h
  split at h
  · simp at h
  rename_i h6
  split at h
  · rename_i h7; exact ⟨by omega, h7⟩
  · simp at h
end Go.Ev

/- Layer 4, plain: what is parsed has bytes that are parsed as it. -/
namespace Go.Ev
set_option linter.unusedSimpArgs false
set_option linter.unusedVariables false
set_option maxRecDepth 4000
set_option maxHeartbeats 4000000
theorem len8' {s : List UInt8} (h : 8 ≤ s.length) : ∃ c0 c1 c2 c3 c4 c5 c6 c7 r, s = c0 :: c1 :: c2 :: c3 :: c4 :: c5 :: c6 :: c7 :: r := by
  obtain ⟨c0, s0, e0, h0⟩ := len_cons h
  obtain ⟨c1, s1, e1, h1⟩ := len_cons h0
  obtain ⟨c2, s2, e2, h2⟩ := len_cons h1
  obtain ⟨c3, s3, e3, h3⟩ := len_cons h2
  obtain ⟨c4, s4, e4, h4⟩ := len_cons h3
  obtain ⟨c5, s5, e5, h5⟩ := len_cons h4
  obtain ⟨c6, s6, e6, h6⟩ := len_cons h5
  obtain ⟨c7, s7, e7, h7⟩ := len_cons h6
  exact ⟨c0, c1, c2, c3, c4, c5, c6, c7, s7, by rw [e0, e1, e2, e3, e4, e5, e6, e7]⟩
theorem head_again {s : List UInt8} (h : 8 ≤ s.length) (hv : bAt s 0 / 16 = 6) (u : List UInt8) {nx ho : Nat} (hnx : nx = bAt s 6) :
    (H6 (1610612736 + (pcl6 s).toNat * 1048576 + (pfl6 s).toNat) (wAt s 4) nx ho ++ u).take 7 = s.take 7 := by
  subst hnx
  obtain ⟨c0, c1, c2, c3, c4, c5, c6, c7, r, rfl⟩ := len8' h
  have h0 := c0.toNat_lt; have h1 := c1.toNat_lt; have h2 := c2.toNat_lt; have h3 := c3.toNat_lt
  have hx : 1610612736 + (pcl6 (c0 :: c1 :: c2 :: c3 :: c4 :: c5 :: c6 :: c7 :: r)).toNat * 1048576 + (pfl6 (c0 :: c1 :: c2 :: c3 :: c4 :: c5 :: c6 :: c7 :: r)).toNat = numN [c0, c1, c2, c3] := by
    unfold pcl6 pfl6
    simp only [List.take_succ_cons, List.take_zero, Int.toNat_natCast]
    rw [bAt0] at hv
    simp only [numN, List.foldl_cons, List.foldl_nil]
    omega
  rw [hx]
  have hb := beB4_numN c0 c1 c2 c3
  rw [beB4] at hb
  simp only [H6, wAts, wAt0, bAts, bAt0, w16_hi, w16_lo, UInt8.ofNat_toNat, List.cons_append, List.nil_append, List.take_succ_cons, List.take_zero]
  simp only [List.cons.injEq, and_true] at hb
  rw [hb.1, hb.2.1, hb.2.2.1, hb.2.2.2]
theorem fi6_lt (r : List UInt8) : fi6 r < 4294967296 := num4_lt (r.drop 4)
theorem again6 {s : List UInt8} (hs : s.length ≤ 140737488351232) (hK : pK6 s = 0) : ∃ cl fl ho fr to ex fg id at' mo pt da, pLV6 s = ip6LV cl fl ho fr to (extsLV ex) fg id at' mo pt da ∧ FitIp6 cl fl ho fr to ex id at' pt da ∧
    Ok6 cl fl ho ex fg id at' mo pt da ∧ bh6 ex fg da = wAt s 4 ∧ (by6 cl fl ho fr to ex fg id at' mo pt da).take 7 = s.take 7 ∧ da.length ≤ bh6 ex fg da := by
  obtain ⟨h40, hv, hl, hk, hf⟩ := pK6_zero hK
  have hb6 := bAt_le s 6
  have hb7 := bAt_le s 7
  have hw := wAt_le s 4
  have hpl := chC_len 8 true ((bAt s 6 : Nat) : Int) ((s.drop 40).take (wAt s 4))
  obtain ⟨p1, p2, p3, p4, p5, p6, p7⟩ := chC_parts 8 true ((bAt s 6 : Nat) : Int) ((s.drop 40).take (wAt s 4)) ⟨by omega, by omega⟩ hk
  have hlen : ((s.drop 40).take (wAt s 4)).length = wAt s 4 := by rw [List.length_take, List.length_drop]; omega
  rw [hlen] at p2
  have hfr : (pfr6 s).length = 16 := by unfold pfr6; simp; omega
  have hto : (pto6 s).length = 16 := by unfold pto6; simp; omega
  have hcl : 0 ≤ pcl6 s ∧ pcl6 s ≤ 255 := by unfold pcl6; omega
  have hfl : 0 ≤ pfl6 s ∧ pfl6 s ≤ 1048575 := by unfold pfl6; omega
  unfold pLV6
  rw [if_pos hK]
  unfold mk6
  have hx : k6 s = chC 8 true ((bAt s 6 : Nat) : Int) ((s.drop 40).take (wAt s 4)) := rfl
  rw [← hx] at hpl p1 p2 p3 p4 p5 p6 p7
  rcases hks : k6 s with ⟨kc, kl, kp, kr⟩
  rw [hks] at hpl p1 p2 p3 p4 p5 p6 p7 hk hf
  dsimp only at *
  have hexs : ∀ e ∈ kl, I64 e.1 ∧ e.2.length ≤ 140737488351232 := by
    intro e he
    have h1 := fB_le kl true p4 e he
    have h2 : isE e.1 := by
      have := List.all_eq_true.1 p3 e he
      simpa using this
    refine ⟨⟨?_, ?_⟩, by omega⟩
    · rcases h2 with (h | h) | h <;> omega
    · rcases h2 with (h | h) | h <;> omega
  by_cases h44 : kp = 44
  · rw [if_pos h44]
    obtain ⟨f1, f2, f3⟩ := hf h44
    have hfi := fi6_lt kr
    have hw2 := wAt_le kr 2
    have hb0 := bAt_le kr 0
    have hdl : (kr.drop 8).length = kr.length - 8 := List.length_drop ..
    have hbh : bh6 kl true (kr.drop 8) = wAt s 4 := by unfold bh6; rw [if_pos rfl, hdl]; omega
    have ok : Ok6 (pcl6 s) (pfl6 s) (bAt s 7 : Nat) kl true (fi6 kr : Nat) (fa6 kr : Nat) (fm6 kr) (bAt kr 0 : Nat) (kr.drop 8) := by
      refine ⟨⟨hcl, hfl, ⟨by omega, by omega⟩, ⟨by omega, by omega⟩, ⟨by omega, by unfold fa6; omega⟩, ?_⟩, ⟨p3, fun h => by simp at h⟩, ⟨p4, by rw [if_pos rfl]; exact f2⟩, hpl, by omega, by omega⟩
      show ((fa6 kr % 8 : Nat) : Int) = 0
      unfold fa6; omega
    refine ⟨_, _, _, _, _, kl, true, _, _, _, _, _, rfl, ⟨⟨by omega, by omega⟩, ⟨by omega, by omega⟩, ⟨by omega, by omega⟩, hfr, hto, by omega, hexs, ⟨by omega, by omega⟩, ⟨by omega, by unfold fa6; omega⟩, ⟨by omega, by omega⟩, by omega⟩, ok, hbh, ?_, by unfold bh6; omega⟩
    rw [by6_eq, bd6_len, hbh]
    refine head_again (by omega) hv _ ?_
    rw [if_pos rfl, ← h44, p1]; rfl
  · rw [if_neg h44]
    have hbh : bh6 kl false kr = wAt s 4 := by unfold bh6; rw [if_neg Bool.false_ne_true]; omega
    have ok : Ok6 (pcl6 s) (pfl6 s) (bAt s 7 : Nat) kl false 0 0 false kp kr := by
      refine ⟨⟨hcl, hfl, ⟨by omega, by omega⟩, ⟨p6, p7⟩, ⟨by omega, by omega⟩, rfl⟩, ⟨p3, fun _ => ⟨p5, h44⟩⟩, ⟨p4, by rw [if_neg Bool.false_ne_true]; exact ⟨rfl, rfl, rfl⟩⟩, hpl, by omega, by omega⟩
    refine ⟨_, _, _, _, _, kl, false, _, _, _, _, _, rfl, ⟨⟨by omega, by omega⟩, ⟨by omega, by omega⟩, ⟨by omega, by omega⟩, hfr, hto, by omega, hexs, ⟨by omega, by omega⟩, ⟨by omega, by omega⟩, ⟨by omega, by omega⟩, by omega⟩, ok, hbh, ?_, by unfold bh6; omega⟩
    rw [by6_eq, bd6_len, hbh]
    refine head_again (by omega) hv _ ?_
    rw [if_neg Bool.false_ne_true, p1]; rfl
theorem by6_end {cl fl ho : Int} {fr to : List UInt8} {ex : List (Int × List UInt8)} {fg : Bool} {id at' : Int} {mo : Bool} {pt : Int} {da : List UInt8} (hfr : fr.length = 16) (hto : to.length = 16) :
    (by6 cl fl ho fr to ex fg id at' mo pt da).drop (40 + bh6 ex fg da - da.length) = da := by
  have hlen := by6_len (cl := cl) (fl := fl) (ho := ho) (fr := fr) (to := to) (ex := ex) (fg := fg) (id := id) (at' := at') (mo := mo) (pt := pt) (da := da) hfr hto
  have : ∃ A : List UInt8, by6 cl fl ho fr to ex fg id at' mo pt da = A ++ da := by
    unfold by6 bd6
    cases fg
    · simp only [Bool.false_eq_true, if_false]
      rw [exB_app ex pt da]
      exact ⟨_, by simp only [← List.append_assoc]; rfl⟩
    · simp only [if_true]
      rw [exB_app ex 44]
      refine ⟨beB 4 (1610612736 + cl.toNat * 1048576 + fl.toNat) ++ (beB 2 (exB ex 44 [] ++ pcB id at' mo pt da).length ++ (beB 1 (nxE ex 44).toNat ++ (beB 1 ho.toNat ++ (fr ++ (to ++ (exB ex 44 [] ++ (beB 1 pt.toNat ++ (0 :: (beB 2 (at'.toNat + if mo = true then 1 else 0) ++ beB 4 id.toNat))))))))), ?_⟩
      simp only [pcB, List.append_assoc, List.cons_append]
  obtain ⟨A, hA⟩ := this
  rw [hA] at hlen ⊢
  rw [List.length_append] at hlen
  exact List.drop_left' (by omega)
end Go.Ev

/- Layer 13: heads of IPv6 over IPv4: what the functions yield. -/
namespace Go.Ev
set_option linter.unusedSimpArgs false
set_option linter.unusedVariables false
set_option maxRecDepth 4000

def proto64 (x : Int) : Int × Bool := if x = 58 then (1, true) else if x ≤ 2 ∨ x = 43 ∨ x = 44 ∨ x = 60 ∨ 255 < x then (0, false) else (x, true)

theorem p_proto {g : Call} (x : Int) : F_head64_Proto g (.int .i64 x) = some (.tup [.int .i64 (proto64 x).1, .bool (proto64 x).2], none) := by
  unfold F_head64_Proto
  (try simp only [guard_merge, or_merge, and_merge, or_pick, and_pick, guard_or, guard_and]); simp only [to_ob]
  simp only [go_sem, ↓reduceIte, reduceCtorEq, upd_ne, back_new (no_at), Nat.reduceAdd, Nat.reduceEqDiff, Nat.reduceMul, Nat.reduceSub, Nat.reduceLeDiff, Nat.reduceLT, Int.reduceToNat, Int.reduceLE, Int.reduceLT, Int.reduceEq, UInt8.reduceOfNat]
  unfold proto64
  try simp only [true_and, go_sem, ↓reduceIte, reduceCtorEq, upd_ne, back_new (no_at), Nat.reduceAdd, Nat.reduceEqDiff, Nat.reduceMul, Nat.reduceSub, Nat.reduceLeDiff, Nat.reduceLT, Int.reduceToNat, Int.reduceLE, Int.reduceLT, Int.reduceEq, UInt8.reduceOfNat]
  repeat' split
  all_goals first | rfl | omega
theorem r_proto {g : Call} (x : Int) : F_interpreterref13_Proto g (.int .i64 x) = some (.tup [.int .i64 (proto64 x).1, .bool (proto64 x).2], none) := by
  unfold F_interpreterref13_Proto
  (try simp only [guard_merge, or_merge, and_merge, or_pick, and_pick, guard_or, guard_and]); simp only [to_ob]
  simp only [go_sem, ↓reduceIte, reduceCtorEq, upd_ne, back_new (no_at), Nat.reduceAdd, Nat.reduceEqDiff, Nat.reduceMul, Nat.reduceSub, Nat.reduceLeDiff, Nat.reduceLT, Int.reduceToNat, Int.reduceLE, Int.reduceLT, Int.reduceEq, UInt8.reduceOfNat]
  unfold proto64
  try simp only [true_and, go_sem, ↓reduceIte, reduceCtorEq, upd_ne, back_new (no_at), Nat.reduceAdd, Nat.reduceEqDiff, Nat.reduceMul, Nat.reduceSub, Nat.reduceLeDiff, Nat.reduceLT, Int.reduceToNat, Int.reduceLE, Int.reduceLT, Int.reduceEq, UInt8.reduceOfNat]
  repeat' split
  all_goals first | rfl | omega

theorem p_wants {g : Call} {cl fl ho : Int} {fr to : List UInt8} {ex : LV} {fg : Bool} {id at' : Int} {mo : Bool} {pr' : Int} {da : List UInt8} (hf : fr.length = 16) (ht : to.length = 16) (tg : Option (Nat × Nat)) (l : List LV) (hex : ex = .lst tg l) :
    F_head64_Wants g (ip6LV cl fl ho fr to ex fg id at' mo pr' da) = some (.bool (!fg && decide (da.length ≤ 1240)), none) := by
  subst hex
  unfold F_head64_Wants ip6LV
  (try simp only [guard_merge, or_merge, and_merge, or_pick, and_pick, guard_or, guard_and]); simp only [to_ob]
  simp only [go_sem, ↓reduceIte, reduceCtorEq, upd_ne, back_new (no_at), Nat.reduceAdd, Nat.reduceEqDiff, Nat.reduceMul, Nat.reduceSub, Nat.reduceLeDiff, Nat.reduceLT, Int.reduceToNat, Int.reduceLE, Int.reduceLT, Int.reduceEq, UInt8.reduceOfNat, hf, ht]
  try simp only [true_and, go_sem, ↓reduceIte, reduceCtorEq, upd_ne, back_new (no_at), Nat.reduceAdd, Nat.reduceEqDiff, Nat.reduceMul, Nat.reduceSub, Nat.reduceLeDiff, Nat.reduceLT, Int.reduceToNat, Int.reduceLE, Int.reduceLT, Int.reduceEq, UInt8.reduceOfNat]
  cases fg <;> simp
  omega

end Go.Ev
