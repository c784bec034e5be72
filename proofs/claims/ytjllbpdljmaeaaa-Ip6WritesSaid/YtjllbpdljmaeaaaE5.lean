/- Part 5 of a proof: what the functions yield. It stands by itself; no condition. -/
import Derived.Test.YtjllbpdljmaeaaaE2
import Derived.Test.YtjllbpdljmaeaaaE4
/- Bytes, sums, errors: small facts. -/
namespace Go.Ev
set_option linter.unusedSimpArgs false
set_option linter.unusedVariables false
set_option maxRecDepth 4000
set_option maxHeartbeats 2000000
/-- What bytes weigh, from an even or odd place on. -/
def sumAt : Nat → List UInt8 → Nat
  | _, [] => 0
  | p, c :: s => (if p % 2 = 0 then c.toNat * 256 else c.toNat) + sumAt (p + 1) s
theorem sumAt_append : ∀ (a b : List UInt8) (p : Nat), sumAt p (a ++ b) = sumAt p a + sumAt (p + a.length) b
  | [], b, p => by simp [sumAt]
  | c :: a, b, p => by
    simp only [List.cons_append, sumAt, sumAt_append a b (p + 1), List.length_cons]
    rw [show p + 1 + a.length = p + (a.length + 1) by omega]
    omega
theorem sumAt_le : ∀ (s : List UInt8) (p : Nat), sumAt p s ≤ 65280 * s.length
  | [], p => by simp [sumAt]
  | c :: s, p => by
    have := sumAt_le s (p + 1)
    have hc := c.toNat_lt
    simp only [sumAt, List.length_cons]
    split <;> omega
theorem sumAt_two : ∀ (s : List UInt8) (p : Nat), sumAt (p + 2) s = sumAt p s
  | [], p => rfl
  | c :: s, p => by
    simp only [sumAt]
    rw [show p + 2 + 1 = p + 1 + 2 by omega, sumAt_two s (p + 1), show (p + 2) % 2 = p % 2 by omega]
/-- Brought below 65536. -/
def ones (n : Nat) : Nat := if n = 0 then 0 else (n - 1) % 65535 + 1
theorem ones_le (n : Nat) : ones n ≤ 65535 := by unfold ones; split <;> omega
theorem ones_small {n : Nat} (h : n ≤ 65535) : ones n = n := by unfold ones; split <;> omega
theorem ones_step {n : Nat} (h : 65535 < n) : ones (n / 65536 + n % 65536) = ones n := by
  unfold ones
  rw [if_neg (by omega), if_neg (by omega)]
  omega
theorem ones_add (a b : Nat) : ones (ones a + b) = ones (a + b) := by
  unfold ones
  by_cases h : a = 0
  · subst h; simp
  · rw [if_neg h, if_neg (by omega), if_neg (by omega)]
    omega
theorem ones_zero {n : Nat} : ones n = 0 ↔ n = 0 := by unfold ones; split <;> omega
def wordsN : List UInt8 → List Nat
  | [] => []
  | [a] => [256 * a.toNat]
  | a :: b :: s => (256 * a.toNat + b.toNat) :: wordsN s
theorem wordsN_len : ∀ (s : List UInt8), (wordsN s).length = (s.length + 1) / 2
  | [] => rfl
  | [a] => by simp [wordsN]
  | a :: b :: s => by simp only [wordsN, List.length_cons, wordsN_len s]; omega
theorem wordsN_sum : ∀ (s : List UInt8), (wordsN s).sum = sumAt 0 s
  | [] => rfl
  | [a] => by simp [wordsN, sumAt]; omega
  | a :: b :: s => by
    simp only [wordsN, sumAt, List.sum_cons, wordsN_sum s]
    rw [show (0 + 1 + 1 : Nat) = 0 + 2 by rfl, sumAt_two]
    simp
    omega
theorem wordsN_le : ∀ (s : List UInt8), ∀ w ∈ wordsN s, w ≤ 65535
  | [], w, h => by simp [wordsN] at h
  | [a], w, h => by
    have := a.toNat_lt
    simp [wordsN] at h; omega
  | a :: b :: s, w, h => by
    have := a.toNat_lt
    have := b.toNat_lt
    simp only [wordsN, List.mem_cons] at h
    rcases h with h | h
    · omega
    · exact wordsN_le s w h
/-- The words of an even beginning. -/
theorem wordsN_take : ∀ (s : List UInt8) (i : Nat) (a b : UInt8), s[2 * i]? = some a → s[2 * i + 1]? = some b → wordsN (s.take (2 * (i + 1))) = wordsN (s.take (2 * i)) ++ [256 * a.toNat + b.toNat]
  | [], i, a, b, h, _ => by simp at h
  | [c], 0, a, b, h, h2 => by simp at h2
  | [c], i + 1, a, b, h, _ => by simp at h
  | c :: d :: s, 0, a, b, h, h2 => by
    simp at h h2
    subst h h2
    rfl
  | c :: d :: s, i + 1, a, b, h, h2 => by
    have h' : s[2 * i]? = some a := by rw [← h, show 2 * (i + 1) = 2 * i + 1 + 1 by omega]; simp
    have h2' : s[2 * i + 1]? = some b := by rw [← h2, show 2 * (i + 1) + 1 = 2 * i + 1 + 1 + 1 by omega]; simp
    have ih := wordsN_take s i a b h' h2'
    rw [show 2 * (i + 1 + 1) = 2 * (i + 1) + 1 + 1 by omega, show 2 * (i + 1) = 2 * i + 1 + 1 by omega]
    simp only [List.take_succ_cons, wordsN, List.cons_append]
    rw [← ih]
    rfl
theorem wordsN_odd : ∀ (s : List UInt8), s.length % 2 = 1 → wordsN (s ++ [0]) = wordsN s
  | [], h => by simp at h
  | [a], h => by simp [wordsN]
  | a :: b :: s, h => by
    simp only [List.cons_append, wordsN]
    rw [wordsN_odd s (by simp only [List.length_cons] at h; omega)]
abbrev intsLV (l : List Nat) : List LV := l.map fun (w : Nat) => LV.int .i64 (w : Int)
theorem wAppend_tag {e by' d t g n sz : Nat} {sl : Slots} {l new : List LV} (hs : sl t = .tag g n sz) (hn : n = l.length) (hz : sz = e) (hl : (l.all fun v => decide (flatLen v = e)) = true) (hnew : (new.all fun v => decide (flatLen v = e)) = true) (hne : new ≠ []) (hb : (l.length + new.length) * by' ≤ 1099511627776) :
    wAppend e by' d sl (.lst (some (t, g)) l) (.lst none new) = some (.lst (some (t, g)) (l ++ new), upd sl t (.tag g (n + new.length) sz)) := by
  simp only [wAppend, newEls, hnew, if_true, Option.bind_some, hne, if_false, hs]
  rw [if_pos ⟨trivial, hn, hz, hl, hb⟩]
theorem ints_flat (l : List Nat) : ((intsLV l).all fun v => decide (flatLen v = 1)) = true := by
  rw [List.all_eq_true]
  intro v hv
  obtain ⟨w, _, rfl⟩ := List.mem_map.1 hv
  simp [flatLen]
/-- A number's n bytes. -/
def beB (n x : Nat) : List UInt8 := (List.range n).map fun i => UInt8.ofNat (x / 256 ^ (n - 1 - i))
theorem beB_len (n x : Nat) : (beB n x).length = n := by simp [beB]
theorem beB_get {n x i : Nat} (h : i < n) : (beB n x)[i]? = some (UInt8.ofNat (x / 256 ^ (n - 1 - i))) := by simp [beB, h]
theorem u8_wrap (y : Nat) : IntKind.u8.wrap (y : Int) = ((y % 256 : Nat) : Int) := by
  simp [IntKind.wrap, IntKind.bits, IntKind.signed]
theorem set_mid {b : List UInt8} {n i : Nat} {c : UInt8} (hb : b.length = n) (hi : i < n) (hc : b[i]? = some c) :
    (b.take i ++ List.replicate (n - i) 0).set i c = b.take (i + 1) ++ List.replicate (n - (i + 1)) 0 := by
  have e : List.replicate (n - i) (0 : UInt8) = 0 :: List.replicate (n - (i + 1)) 0 := by
    rw [show n - i = (n - (i + 1)) + 1 by omega, List.replicate_succ]
  rw [e, List.take_add_one, hc]
  have hl : (b.take i).length = i := by rw [List.length_take]; omega
  rw [List.set_append]
  rw [if_neg (by omega), hl]
  simp
def sumS (s : List UInt8) : Int := 65535 - (ones (sumAt 0 s) : Nat)
theorem sumS_le (s : List UInt8) : 0 ≤ sumS s ∧ sumS s ≤ 65535 := by
  have := ones_le (sumAt 0 s)
  unfold sumS
  omega
theorem ue_ag3 {c : Int} : LV.isAgg (faultLV c) = false := by unfold faultLV; exact Eq.trans rfl rfl
def fE (c : Int) : LV := if c = 0 then .nili else faultLV c
theorem fe_ag {c : Int} : LV.isAgg (fE c) = false := by unfold fE faultLV; split <;> exact Eq.trans rfl rfl
theorem fe_st {c : Int} : stor (fE c) = true := by unfold fE faultLV; split <;> exact Eq.trans rfl rfl
theorem fe_pl {c : Int} : plainRes (fE c) = true := by unfold fE faultLV; split <;> exact Eq.trans rfl rfl
theorem fe_fl {c : Int} : flatLen (fE c) = 1 := by unfold fE faultLV; split <;> simp only [flatLen]
theorem fe_ps {c : Int} : psl (fE c) = some (fE c) := by unfold fE faultLV; split <;> simp only [psl]
theorem fe_sv {c : Int} {sl : Slots} : sealV sl (fE c) = some (fE c) := by unfold fE faultLV; split <;> simp only [sealV, psl]
theorem fe_ov {c : Int} {sl : Slots} : outV none sl (fE c) = some (fE c) := by unfold fE faultLV; split <;> simp only [outV, sealV, psl]
attribute [go_sem ↓] fe_ag fe_st fe_pl fe_fl fe_ps fe_sv fe_ov
theorem toBytes_byteLV : ∀ l : List UInt8, toBytes (l.map byteLV) = some l
  | [] => by simp only [List.map_nil, toBytes]
  | a :: l => by
    show toBytes (.int .u8 (a.toNat : Int) :: l.map byteLV) = _
    rw [c_tb1, toBytes_byteLV l]
    simp [ob]
theorem lt1 {x : Int} (h : 0 ≤ x) (h1 : x < 256) : 0 ≤ x ∧ x < ((256 ^ 1 : Nat) : Int) := ⟨h, h1⟩
theorem lt2 {x : Int} (h : 0 ≤ x) (h1 : x < 65536) : 0 ≤ x ∧ x < ((256 ^ 2 : Nat) : Int) := ⟨h, h1⟩
theorem get_def {s : List UInt8} {i : Nat} (h : i < s.length) : s[i]? = some (s.getD i 0) := by
  rw [List.getD_eq_getElem?_getD, List.getElem?_eq_getElem h]; rfl
abbrev w16 (a b : UInt8) : Nat := 256 * a.toNat + b.toNat
theorem w16_or (a b : UInt8) : bitsOf .or .i64 (((a.toNat * 256 : Nat)) : Int) (b.toNat : Int) = ((w16 a b : Nat) : Int) := by
  have ha := a.toNat_lt
  have hb := b.toNat_lt
  rw [bits_or_nat (by simp [IntKind.max, IntKind.signed, IntKind.bits]; omega) (by simp [IntKind.max, IntKind.signed, IntKind.bits]; omega)]
  congr 1
  show _ = 256 * a.toNat + b.toNat
  rw [show a.toNat * 256 = a.toNat <<< 8 by rw [Nat.shiftLeft_eq], ← Nat.shiftLeft_add_eq_or_of_lt hb, Nat.shiftLeft_eq]
  simp only [Nat.reducePow]
  omega
/-- Two bytes at a place. -/
def wAt (s : List UInt8) (i : Nat) : Nat := w16 (s.getD i 0) (s.getD (i + 1) 0)
theorem wAt_le (s : List UInt8) (i : Nat) : wAt s i ≤ 65535 := by
  have := (s.getD i 0).toNat_lt; have := (s.getD (i + 1) 0).toNat_lt
  unfold wAt w16; omega
def bAt (s : List UInt8) (i : Nat) : Nat := (s.getD i 0).toNat
theorem bAt_le (s : List UInt8) (i : Nat) : bAt s i ≤ 255 := by have := (s.getD i 0).toNat_lt; unfold bAt; omega
theorem e_cBslM {R : Type} {m d : Nat} {ps : List (Nat × LV)} {sl : Slots} {K2 : LV × Slots → Option R} : ob (cBslM m ps d sl) K2 = ob (putParts (.bytes (List.replicate m 0)) ps) fun v => ob (asBytes v) fun b => ob (cBytes b d sl) K2 := by
  unfold cBslM
  cases putParts (.bytes (List.replicate m 0)) ps with
  | none => rfl
  | some v => cases v <;> rfl
theorem cBytes_eq {R : Type} {b : List UInt8} {d : Nat} {K2 : LV × Slots → Option R} (h : b.length ≤ 1099511627776) : ob (cBytes b d noSlots) K2 = K2 (.arr d 1 [] 0 0 b.length, upd noSlots d (.obj 1 (.bytes b))) := by
  simp only [cBytes, mkObj, no_at]
  rfl
theorem wApp_arr {d t g : Nat} {sl : Slots} {b s : List UInt8} (hb : b.length + s.length ≤ 1099511627776) :
    wAppend 1 1 d (upd sl t (.obj g (.bytes b))) (.arr t g [] 0 0 b.length) (.lst none (s.map byteLV)) = some (.arr t (g + 1) [] 0 0 (b.length + s.length), upd (upd sl t (.obj g (.bytes b))) t (.obj (g + 1) (.bytes (b ++ s)))) := by
  have h1 : ((s.map byteLV).all fun v => decide (flatLen v = 1)) = true := by
    rw [List.all_eq_true]; intro v hv; obtain ⟨w, _, rfl⟩ := List.mem_map.1 hv; simp [byteLV, flatLen]
  have h2 : ((s.map byteLV).all okByte) = true := by
    rw [List.all_eq_true]; intro v hv; obtain ⟨w, _, rfl⟩ := List.mem_map.1 hv
    have := w.toNat_lt
    simp [byteLV, okByte]; omega
  simp only [wAppend, newEls, h1, if_true, Option.bind_some, upd_same]
  rw [if_pos ⟨trivial, trivial, trivial, trivial, by simpa using hb, h2⟩, toBytes_byteLV]
  rfl
theorem wApp_str {d t g : Nat} {sl : Slots} {b s : List UInt8} (hb : b.length + s.length ≤ 1099511627776) :
    wAppend 1 1 d (upd sl t (.obj g (.bytes b))) (.arr t g [] 0 0 b.length) (.str s) = some (.arr t (g + 1) [] 0 0 (b.length + s.length), upd (upd sl t (.obj g (.bytes b))) t (.obj (g + 1) (.bytes (b ++ s)))) := by
  have h2 : ((s.map byteLV).all okByte) = true := by
    rw [List.all_eq_true]; intro v hv; obtain ⟨w, _, rfl⟩ := List.mem_map.1 hv
    have := w.toNat_lt
    simp [byteLV, okByte]; omega
  simp only [wAppend, newEls, if_true, Option.bind_some, upd_same]
  rw [if_pos ⟨trivial, trivial, trivial, trivial, by simpa using hb, h2⟩, toBytes_byteLV]
  rfl
theorem u8w (x : Nat) : IntKind.u8.wrap (x : Int) = ((UInt8.ofNat x).toNat : Int) := by rw [u8_wrap, UInt8.toNat_ofNat']
theorem u8_ofNat_mod (x : Nat) : UInt8.ofNat (x % 256) = UInt8.ofNat x := by apply UInt8.toNat_inj.1; simp
theorem u8_lt (c : UInt8) : (c.toNat : Int) < 256 := by have := c.toNat_lt; omega
theorem beB1 (x : Nat) : beB 1 x = [UInt8.ofNat x] := by simp [beB, List.range_succ]
theorem beB2 (x : Nat) : beB 2 x = [UInt8.ofNat (x / 256), UInt8.ofNat x] := by simp [beB, List.range_succ]
theorem div256 {x : Nat} (h : x ≤ 1000000) : IntKind.i64.wrap (Int.tdiv (x : Int) 256) = ((x / 256 : Nat) : Int) := by
  rw [show Int.tdiv (x : Int) 256 = ((x / 256 : Nat) : Int) from rfl, wrap_id (by omega) (by omega)]
theorem mod256 (x : Nat) : Int.tmod (x : Int) 256 = ((x % 256 : Nat) : Int) := rfl
theorem sum_zeros {h r : List UInt8} (hh : h.length % 2 = 0) : sumAt 0 (h ++ (0 :: 0 :: r)) = sumAt 0 (h ++ r) := by
  simp only [sumAt_append, sumAt, UInt8.toNat_zero]
  rw [show 0 + h.length + 1 + 1 = 0 + h.length + 2 by omega, sumAt_two]
  split <;> split <;> omega
theorem w16_beB {x : Nat} (h : x < 65536) : w16 (UInt8.ofNat (x / 256)) (UInt8.ofNat x) = x := by
  simp only [w16, UInt8.toNat_ofNat']; omega
theorem flip_tab : ∀ c : Fin 256, ∀ j : Fin 8, c.val ^^^ 2 ^ j.val = c.val + 2 ^ j.val ∨ (c.val ^^^ 2 ^ j.val) + 2 ^ j.val = c.val := by
  decide +kernel
theorem flip_nat {c j : Nat} (hc : c < 256) (hj : j < 8) : c ^^^ 2 ^ j = c + 2 ^ j ∨ (c ^^^ 2 ^ j) + 2 ^ j = c := flip_tab ⟨c, hc⟩ ⟨j, hj⟩
theorem ones_full {n : Nat} : ones n = 65535 ↔ 0 < n ∧ n % 65535 = 0 := by unfold ones; split <;> omega
/-- With its sum written in, a text is right. -/
theorem right_of {t x : Nat} (hx : x = if 65535 - ones t = 0 then 65535 else 65535 - ones t) : ones (t + x) = 65535 := by
  have h1 := ones_le t
  rw [← ones_add, ones_full]
  split at hx <;> omega
theorem right_of0 {t : Nat} : ones (t + (65535 - ones t)) = 65535 ∨ t = 0 ∧ False := by
  left
  have h1 := ones_le t
  rw [← ones_add, ones_full]
  omega
theorem sumAt_set : ∀ (s : List UInt8) (p k : Nat) (c d : UInt8), s[k]? = some c → sumAt p (s.set k d) + (if (p + k) % 2 = 0 then c.toNat * 256 else c.toNat) = sumAt p s + (if (p + k) % 2 = 0 then d.toNat * 256 else d.toNat)
  | [], p, k, c, d, h => by simp at h
  | a :: s, p, 0, c, d, h => by
    simp at h; subst h
    simp only [List.set_cons_zero, sumAt, Nat.add_zero]
    omega
  | a :: s, p, k + 1, c, d, h => by
    have := sumAt_set s (p + 1) k c d (by simpa using h)
    simp only [List.set_cons_succ, sumAt]
    rw [show p + 1 + k = p + (k + 1) by omega] at this
    omega
theorem pow_not {j m : Nat} (hj : j < 8) (hm : m = 2 ^ j * 256 ∨ m = 2 ^ j) : 0 < m ∧ m < 65535 := by
  have h1 : 0 < 2 ^ j := Nat.two_pow_pos j
  have h2 : 2 ^ j ≤ 2 ^ 7 := Nat.pow_le_pow_right (by decide) (by omega)
  have h3 : (2 : Nat) ^ 7 = 128 := by decide
  omega
/-- A bit that is turned is told by the sum. -/
theorem flip_told {s : List UInt8} {p k j : Nat} {c d : UInt8} (hk : s[k]? = some c) (hj : j < 8) (hd : d.toNat = c.toNat ^^^ 2 ^ j) (ho : ones (sumAt p s) = 65535) : ones (sumAt p (s.set k d)) ≠ 65535 := by
  have h1 := sumAt_set s p k c d hk
  have h2 := flip_nat c.toNat_lt hj
  rw [← hd] at h2
  have ho := ones_full.1 ho
  intro h
  have h := ones_full.1 h
  have h3 : 0 < 2 ^ j := Nat.two_pow_pos j
  have h4 : 2 ^ j ≤ 2 ^ 7 := Nat.pow_le_pow_right (by decide) (by omega)
  have h5 : (2 : Nat) ^ 7 = 128 := by decide
  generalize 2 ^ j = m at *
  split at h1 <;> omega
theorem sumS_zero {s : List UInt8} : sumS s = 0 ↔ ones (sumAt 0 s) = 65535 := by unfold sumS; omega
theorem bAt0 {c : UInt8} {l : List UInt8} : bAt (c :: l) 0 = c.toNat := Eq.trans rfl rfl
theorem bAts {c : UInt8} {l : List UInt8} {i : Nat} : bAt (c :: l) (i + 1) = bAt l i := by simp [bAt]
theorem wAt0 {c d : UInt8} {l : List UInt8} : wAt (c :: d :: l) 0 = w16 c d := Eq.trans rfl rfl
theorem wAts {c : UInt8} {l : List UInt8} {i : Nat} : wAt (c :: l) (i + 1) = wAt l i := by simp [wAt]
theorem w16_hi (a b : UInt8) : UInt8.ofNat (w16 a b / 256) = a := by
  apply UInt8.toNat_inj.1
  have := a.toNat_lt; have := b.toNat_lt
  simp only [UInt8.toNat_ofNat', w16]; omega
theorem w16_lo (a b : UInt8) : UInt8.ofNat (w16 a b) = b := by
  apply UInt8.toNat_inj.1
  have := a.toNat_lt; have := b.toNat_lt
  simp only [UInt8.toNat_ofNat', w16]; omega
theorem len_cons {k : Nat} {s : List UInt8} (h : k + 1 ≤ s.length) : ∃ a t, s = a :: t ∧ k ≤ t.length := by
  cases s with
  | nil => simp at h
  | cons a t => exact ⟨a, t, rfl, by simpa using h⟩
theorem nat_of {x : Int} (h : 0 ≤ x) : ∃ y : Nat, x = (y : Int) := Int.eq_ofNat_of_zero_le h
end Go.Ev

/- A list that grows from nil. -/
namespace Go.Ev
set_option linter.unusedSimpArgs false
set_option linter.unusedVariables false
set_option maxRecDepth 4000
set_option maxHeartbeats 2000000
def tagL (t : Nat) : List LV → LV
  | [] => .nils
  | x :: l => .lst (some (t, 1)) (x :: l)
def tagS (t sz : Nat) : List LV → Slots
  | [] => noSlots
  | x :: l => upd noSlots t (.tag 1 (l.length + 1) sz)
section
variable {t e by' : Nat} {l : List LV} {x : LV} {sl : Slots} {R : Type} {K : LV → Option R}
theorem wApp_tag (hl : (l.all fun v => decide (flatLen v = e)) = true) (hx : flatLen x = e) (hb : (l.length + 1) * by' ≤ 1099511627776) :
    wAppend e by' t (tagS t e l) (tagL t l) (.lst none [x]) = some (tagL t (l ++ [x]), tagS t e (l ++ [x])) := by
  have hn : (([x] : List LV).all fun v => decide (flatLen v = e)) = true := by simp [hx]
  cases l with
  | nil =>
    simp only [tagL, tagS, wAppend, newEls, hn, if_true, Option.bind_some]
    rw [if_neg (by simp), if_pos (by simpa using hb)]
    rfl
  | cons y l =>
    simp only [tagL, tagS, wAppend, newEls, hn, if_true, Option.bind_some, upd_same]
    rw [if_neg (by simp), if_pos ⟨trivial, rfl, trivial, hl, by simpa using hb⟩]
    simp only [upd_upd, List.cons_append, List.length_append, List.length_cons, List.length_nil]
theorem tg_len : ob (pr.len false (tagL t l)) K = K (.int .i64 (l.length : Int)) := by
  cases l with
  | nil => exact e_lenN
  | cons y l => exact e_lenL
theorem tg_ag : LV.isAgg (tagL t l) = false := by cases l <;> exact Eq.trans rfl rfl
theorem tg_st : stor (tagL t l) = true := by cases l <;> exact Eq.trans rfl rfl
theorem tg_pl : plainRes (tagL t l) = true := by cases l <;> exact Eq.trans rfl rfl
theorem tg_fl : flatLen (tagL t l) = 1 := by cases l <;> simp only [tagL, flatLen]
theorem tg_ps : psl (tagL t l) = some (.lst none l) := by cases l <;> simp only [tagL, psl]
theorem tg_sv : sealV sl (tagL t l) = some (.lst none l) := by cases l <;> simp only [tagL, sealV, psl]
theorem tg_ov : outV none sl (tagL t l) = some (.lst none l) := by cases l <;> simp only [tagL, outV, sealV, psl]
theorem tg_rf : refOk (tagS t e l) (tagL t l) = true := by
  cases l with
  | nil => simp only [tagL, refOk]
  | cons y l => simp only [tagL, tagS, refOk, upd_same]
theorem tg_bk : back noSlots (tagS t e l) = tagS t e l := by
  cases l with
  | nil => exact back_self
  | cons y l => exact c_bktag
theorem ext_flat (l : List (Int × List UInt8)) : ((l.map extLV).all fun v => decide (flatLen v = 2)) = true := by
  rw [List.all_eq_true]
  intro v hv
  obtain ⟨w, _, rfl⟩ := List.mem_map.1 hv
  simp [flatLen, sumLen]
end
attribute [go_sem ↓] tg_len tg_ag tg_st tg_pl tg_fl tg_ps tg_sv tg_ov tg_rf tg_bk
end Go.Ev

/- Layer 1: a number's bytes. -/
namespace Go.Ev
set_option linter.unusedSimpArgs false
set_option linter.unusedVariables false
set_option maxRecDepth 4000
set_option maxHeartbeats 2000000
def bigR (x : Int) (m : Nat) : LV := if 0 ≤ x ∧ x < ((256 ^ m : Nat) : Int) then .tup [.str (beB m x.toNat), .nili] else .tup [.str [], faultLV 13]
section
variable {S : Sys} (hS : Has S) (n : Nat)
include hS
theorem ev_Big (x : Int) (m : Nat) (hm : m = 1 ∨ m = 2 ∨ m = 4) (hx : I64 x) : S.ev (n + 1) id_num_Big [.int .i64 x, .int .i64 (m : Int)] none = some (bigR x m, none) := by
  rw [Sys.step hS.h_num_Big, F_num_Big_eq]
  unfold F_num_Big
  (try simp only [guard_merge, or_merge, and_merge, or_pick, and_pick, guard_or, guard_and]); simp only [to_ob]
  have f1 : ¬ ((¬ (m : Int) = 1 ∧ ¬ (m : Int) = 2) ∧ ¬ (m : Int) = 4) := by omega
  have e1 : IntKind.i64.wrap (8 * (m : Int)) = ((8 * m : Nat) : Int) := by rw [wrap_id (by omega) (by omega)]; omega
  have e2 : IntKind.i64.wrap (1 * 2 ^ min (8 * m) 64) = ((256 ^ m : Nat) : Int) := by
    rcases hm with rfl | rfl | rfl <;> rfl
  have f2 : ¬ ((8 * m : Nat) : Int) < 0 := by omega
  unfold bigR
  by_cases c : 0 ≤ x ∧ x < ((256 ^ m : Nat) : Int)
  · have c' : ¬ (x < 0 ∨ ((256 ^ m : Nat) : Int) ≤ x) := by omega
    rw [if_pos c]
    obtain ⟨y, rfl⟩ := Int.eq_ofNat_of_zero_le c.1
    have hm4 : m ≤ 4 := by omega
    have hy : (y : Int) ≤ 9223372036854775807 := hx.2
    have f3 : (m : Int) ≤ 1099511627776 := by omega
    have f4 : (0 : Int) ≤ (m : Int) := by omega
    simp only [go_sem, ↓reduceIte, reduceCtorEq, upd_ne, back_new (no_at), Nat.reduceAdd, Nat.reduceEqDiff, Nat.reduceMul, Nat.reduceSub, Nat.reduceLeDiff, Nat.reduceLT, Int.reduceToNat, Int.reduceLE, Int.reduceLT, Int.reduceEq, UInt8.reduceOfNat, f1, e1, e2, f2, c', f3, f4, Int.le_refl, List.length_replicate]
    refine while_rule (fun k q => ∃ i : Nat, q = ([.int .i64 (i : Int)], upd noSlots 36 (.obj 1 (.bytes ((beB m y).take i ++ List.replicate (m - i) 0)))) ∧ i + k = m) m ⟨0, by simp, by simp⟩ ?_
    rintro k q ⟨i, rfl, hi⟩
    simp only [go_sem, ↓reduceIte, reduceCtorEq, upd_ne, back_new (no_at), Nat.reduceAdd, Nat.reduceEqDiff, Nat.reduceMul, Nat.reduceSub, Nat.reduceLeDiff, Nat.reduceLT, Int.reduceToNat, Int.reduceLE, Int.reduceLT, Int.reduceEq, UInt8.reduceOfNat]
    refine nxt_ite (fun h => ?_) (fun h => ?_)
    · have hlt : i < m := by omega
      have g1 : IntKind.i64.wrap ((m : Int) - 1) = ((m - 1 : Nat) : Int) := by rw [wrap_id (by omega) (by omega)]; omega
      have g2 : IntKind.i64.wrap (((m - 1 : Nat) : Int) - (i : Int)) = ((m - 1 - i : Nat) : Int) := by rw [wrap_id (by omega) (by omega)]; omega
      have g3 : IntKind.i64.wrap (8 * ((m - 1 - i : Nat) : Int)) = ((8 * (m - 1 - i) : Nat) : Int) := by rw [wrap_id (by omega) (by omega)]; omega
      have g4 : ¬ ((8 * (m - 1 - i) : Nat) : Int) < 0 := by omega
      have g5 : Int.fdiv (y : Int) (2 ^ min (8 * (m - 1 - i)) 64) = ((y / 256 ^ (m - 1 - i) : Nat) : Int) := by
        have p1 : ((2 : Int) ^ (8 * (m - 1 - i))) = ((256 ^ (m - 1 - i) : Nat) : Int) := by
          rw [show (256 : Nat) = 2 ^ 8 from rfl, ← Nat.pow_mul]; simp
        rw [Nat.min_eq_left (by omega), p1, Int.fdiv_eq_ediv_of_nonneg _ (Int.natCast_nonneg _)]
        rfl
      have hl : ((beB m y).take i ++ List.replicate (m - i) 0).length = m := by rw [List.length_append, List.length_take, beB_len, List.length_replicate]; omega
      obtain ⟨c0, hc0⟩ : ∃ c0, ((beB m y).take i ++ List.replicate (m - i) 0)[i]? = some c0 := ⟨_, List.getElem?_eq_getElem (by omega)⟩
      have g6 : ((y / 256 ^ (m - 1 - i) % 256 : Nat) : Int) < 256 := by omega
      have g7 : (UInt8.ofNat (y / 256 ^ (m - 1 - i) % 256)) = UInt8.ofNat (y / 256 ^ (m - 1 - i)) := by
        apply UInt8.toNat_inj.1; simp
      have g8 := set_mid (beB_len m y) hlt (beB_get hlt)
      have g9 : IntKind.i64.wrap ((i : Int) + 1) = ((i + 1 : Nat) : Int) := by rw [wrap_id (by omega) (by omega)]; omega
      simp only [go_sem, ↓reduceIte, reduceCtorEq, upd_ne, back_new (no_at), Nat.reduceAdd, Nat.reduceEqDiff, Nat.reduceMul, Nat.reduceSub, Nat.reduceLeDiff, Nat.reduceLT, Int.reduceToNat, Int.reduceLE, Int.reduceLT, Int.reduceEq, UInt8.reduceOfNat, List.getElem?_map, Int.toNat_natCast, g1, g2, g3, g4, g5, u8_wrap, hl, hc0, hlt, byteLV, g6, g7, g8, g9]
      exact ⟨k - 1, by omega, i + 1, rfl, by omega⟩
    · rw [List.take_of_length_le (by rw [beB_len]; omega), show m - i = 0 by omega]
      have hb := beB_len m y
      have hb2 : m ≤ (beB m y).length := by omega
      have htk : (beB m y).take m = beB m y := List.take_of_length_le (by omega)
      simp only [go_sem, ↓reduceIte, reduceCtorEq, upd_ne, back_new (no_at), Nat.reduceAdd, Nat.reduceEqDiff, Nat.reduceMul, Nat.reduceSub, Nat.reduceLeDiff, Nat.reduceLT, Int.reduceToNat, Int.reduceLE, Int.reduceLT, Int.reduceEq, UInt8.reduceOfNat, Nxt, exIf, hb, htk, Nat.le_refl, Int.toNat_natCast]
  · have c' : x < 0 ∨ ((256 ^ m : Nat) : Int) ≤ x := by omega
    rw [if_neg c]
    simp only [go_sem, ↓reduceIte, reduceCtorEq, upd_ne, back_new (no_at), Nat.reduceAdd, Nat.reduceEqDiff, Nat.reduceMul, Nat.reduceSub, Nat.reduceLeDiff, Nat.reduceLT, Int.reduceToNat, Int.reduceLE, Int.reduceLT, Int.reduceEq, UInt8.reduceOfNat, f1, e1, e2, f2, c']
end
end Go.Ev

/- Layer 1, the document's reader: so many bytes of a text, as a number. -/
namespace Go.Ev
set_option linter.unusedSimpArgs false
set_option linter.unusedVariables false
set_option maxRecDepth 4000
set_option maxHeartbeats 2000000

/-- The number that bytes are. -/
def numN (l : List UInt8) : Nat := l.foldl (fun x c => x * 256 + c.toNat) 0
theorem numN_snoc (l : List UInt8) (c : UInt8) : numN (l ++ [c]) = numN l * 256 + c.toNat := by simp [numN]
theorem numN_lt' : ∀ (l : List UInt8) (x : Nat), l.foldl (fun x c => x * 256 + c.toNat) x < (x + 1) * 256 ^ l.length
  | [], x => by simp
  | c :: l, x => by
    have h := numN_lt' l (x * 256 + c.toNat)
    have hc := c.toNat_lt
    have h2 : (x * 256 + c.toNat + 1) * 256 ^ l.length ≤ ((x + 1) * 256) * 256 ^ l.length := Nat.mul_le_mul_right _ (by omega)
    rw [List.foldl_cons, List.length_cons, Nat.pow_succ, Nat.mul_comm (256 ^ l.length) 256, ← Nat.mul_assoc]
    omega
theorem numN_lt (l : List UInt8) : numN l < 256 ^ l.length := by
  have := numN_lt' l 0
  unfold numN
  omega
abbrev rdLV (s : List UInt8) (a : Nat) : LV := .agg [.str s, .int .i64 (a : Int), .int .i64 0, .int .i64 0]
theorem drop_take_one {s : List UInt8} {i : Nat} {c : UInt8} (h : s[i]? = some c) : (s.drop i).take 1 = [c] := by
  obtain ⟨hi, rfl⟩ := List.getElem?_eq_some_iff.1 h
  rw [List.drop_eq_getElem_cons hi]; rfl
theorem drop_take_snoc {s : List UInt8} {a i : Nat} {c : UInt8} (h : s[a + i]? = some c) : (s.drop a).take (i + 1) = (s.drop a).take i ++ [c] := by
  rw [List.take_add_one, List.getElem?_drop, h]; rfl
theorem numN_two {s : List UInt8} {i : Nat} (h : i + 2 ≤ s.length) : numN ((s.drop i).take 2) = wAt s i := by
  have ha := get_def (s := s) (i := i) (by omega)
  have hb := get_def (s := s) (i := i + 1) (by omega)
  rw [drop_take_snoc hb, show (s.drop i).take 1 = [s.getD i 0] from drop_take_one ha]
  simp only [numN, List.foldl_cons, List.foldl_nil, List.cons_append, List.nil_append, wAt, w16]
  omega
theorem sub_get {s : List UInt8} {a i m : Nat} (h : i < m) (hl : a + i < s.length) : ((s.drop a).take m)[i]? = some (s.getD (a + i) 0) := by
  rw [List.getElem?_take_of_lt h, List.getElem?_drop, get_def hl]
section
variable {S : Sys} (hS : Has S) (n : Nat)
include hS
theorem ev_rText (s : List UInt8) (a m : Nat) (h : a + m ≤ s.length) (hs : s.length ≤ 140737488351232) :
    S.ev (n + 1) id_interpreterref01_Reader_Text [.ptr 0 0 [] 0, .int .i64 (m : Int)] (some (rdLV s a)) = some (.tup [.str ((s.drop a).take m), .int .i64 0], some (rdLV s (a + m))) := by
  rw [Sys.step hS.h_interpreterref01_Reader_Text, F_interpreterref01_Reader_Text_eq]
  unfold F_interpreterref01_Reader_Text
  (try simp only [guard_merge, or_merge, and_merge, or_pick, and_pick, guard_or, guard_and]); simp only [to_ob]
  have f1 : ¬ (m : Int) < 0 := by omega
  have f2 : ¬ (s.length : Int) < (m : Int) := by omega
  have e1 : IntKind.i64.wrap ((s.length : Int) - (m : Int)) = ((s.length - m : Nat) : Int) := by rw [wrap_id (by omega) (by omega)]; omega
  have f3 : ¬ ((s.length - m : Nat) : Int) < (a : Int) := by omega
  simp only [go_sem, ↓reduceIte, reduceCtorEq, upd_ne, back_new (no_at), Nat.reduceAdd, Nat.reduceEqDiff, Nat.reduceMul, Nat.reduceSub, Nat.reduceLeDiff, Nat.reduceLT, Int.reduceToNat, Int.reduceLE, Int.reduceLT, Int.reduceEq, UInt8.reduceOfNat, f1, f2, e1, f3]
  refine while_rule (fun k q => ∃ i : Nat, i + k = m ∧ q = ([.str ((s.drop a).take i), .int .i64 (i : Int)], upd noSlots 0 (.obj 0 (rdLV s (a + i))))) m ⟨0, by omega, by simp⟩ ?_
  rintro k q ⟨i, hi, rfl⟩
  simp only [go_sem, ↓reduceIte, reduceCtorEq, upd_ne, back_new (no_at), Nat.reduceAdd, Nat.reduceEqDiff, Nat.reduceMul, Nat.reduceSub, Nat.reduceLeDiff, Nat.reduceLT, Int.reduceToNat, Int.reduceLE, Int.reduceLT, Int.reduceEq, UInt8.reduceOfNat]
  refine nxt_ite (fun h => ?_) (fun h => ?_)
  · have hlt : a + i < s.length := by omega
    obtain ⟨c, hc⟩ : ∃ c, s[a + i]? = some c := ⟨s[a + i], by simp [hlt]⟩
    have e2 : IntKind.i64.wrap (((a + i : Nat) : Int) + 1) = ((a + i + 1 : Nat) : Int) := by rw [wrap_id (by omega) (by omega)]; omega
    have e3 : IntKind.i64.wrap ((i : Int) + 1) = ((i + 1 : Nat) : Int) := by rw [wrap_id (by omega) (by omega)]; omega
    have f4 : a + i + 1 ≤ s.length := by omega
    have f5 : a + i ≤ a + i + 1 := by omega
    have e4 : (s.drop (a + i)).take (a + i + 1 - (a + i)) = [c] := by rw [show a + i + 1 - (a + i) = 1 by omega, drop_take_one hc]
    have f6 : min i (s.length - a) + (0 + 1) ≤ maxStr := by unfold maxStr; omega
    have f6' : min i (s.length - a) + 1 ≤ maxStr := by unfold maxStr; omega
    simp only [go_sem, ↓reduceIte, reduceCtorEq, upd_ne, back_new (no_at), Nat.reduceAdd, Nat.reduceEqDiff, Nat.reduceMul, Nat.reduceSub, Nat.reduceLeDiff, Nat.reduceLT, Int.reduceToNat, Int.reduceLE, Int.reduceLT, Int.reduceEq, UInt8.reduceOfNat, List.getElem?_map, Int.toNat_natCast, ↓e_sadd, e2, e3, f4, f5, e4, f6, f6', List.length_take, List.length_drop]
    exact ⟨k - 1, by omega, i + 1, by omega, by rw [drop_take_snoc hc]; rfl⟩
  · obtain rfl : i = m := by omega
    simp only [go_sem, ↓reduceIte, reduceCtorEq, upd_ne, back_new (no_at), Nat.reduceAdd, Nat.reduceEqDiff, Nat.reduceMul, Nat.reduceSub, Nat.reduceLeDiff, Nat.reduceLT, Int.reduceToNat, Int.reduceLE, Int.reduceLT, Int.reduceEq, UInt8.reduceOfNat, Nxt, exIf]
theorem ev_rNumber (s : List UInt8) (a m : Nat) (h : a + m ≤ s.length) (hm : m ≤ 4) (hs : s.length ≤ 140737488351232) :
    S.ev (n + 2) id_interpreterref01_Reader_Number [.ptr 0 0 [] 0, .int .i64 (m : Int)] (some (rdLV s a)) = some (.tup [.int .i64 ((numN ((s.drop a).take m) : Nat) : Int), .int .i64 0], some (rdLV s (a + m))) := by
  rw [Sys.step hS.h_interpreterref01_Reader_Number, F_interpreterref01_Reader_Number_eq]
  unfold F_interpreterref01_Reader_Number
  have ht := ev_rText hS n s a m h hs
  (try simp only [guard_merge, or_merge, and_merge, or_pick, and_pick, guard_or, guard_and]); simp only [to_ob]
  simp only [go_sem, ↓reduceIte, reduceCtorEq, upd_ne, back_new (no_at), Nat.reduceAdd, Nat.reduceEqDiff, Nat.reduceMul, Nat.reduceSub, Nat.reduceLeDiff, Nat.reduceLT, Int.reduceToNat, Int.reduceLE, Int.reduceLT, Int.reduceEq, UInt8.reduceOfNat, ht]
  have hul : ((s.drop a).take m).length = m := by rw [List.length_take, List.length_drop]; omega
  generalize (s.drop a).take m = u at *
  refine while_rule (fun k q => ∃ i : Nat, i + k = m ∧ q = ([.int .i64 ((numN (u.take i) : Nat) : Int), .int .i64 (i : Int)], upd noSlots 0 (.obj 0 (rdLV s (a + m))))) m ⟨0, by omega, by simp [numN]⟩ ?_
  rintro k q ⟨i, hi, rfl⟩
  simp only [go_sem, ↓reduceIte, reduceCtorEq, upd_ne, back_new (no_at), Nat.reduceAdd, Nat.reduceEqDiff, Nat.reduceMul, Nat.reduceSub, Nat.reduceLeDiff, Nat.reduceLT, Int.reduceToNat, Int.reduceLE, Int.reduceLT, Int.reduceEq, UInt8.reduceOfNat, hul]
  refine nxt_ite (fun h => ?_) (fun h => ?_)
  · have hlt : i < u.length := by omega
    obtain ⟨c, hc⟩ : ∃ c, u[i]? = some c := ⟨u[i], by simp [hlt]⟩
    have htk : u.take (i + 1) = u.take i ++ [c] := by rw [List.take_add_one, hc]; rfl
    have hb := numN_lt (u.take i)
    have hb2 : 256 ^ (u.take i).length ≤ 256 ^ 3 := Nat.pow_le_pow_right (by decide) (by rw [List.length_take]; omega)
    have hb3 : (256 : Nat) ^ 3 = 16777216 := by decide
    have hcl := c.toNat_lt
    have e1 : IntKind.i64.wrap (((numN (u.take i) : Nat) : Int) * 256) = ((numN (u.take i) * 256 : Nat) : Int) := by rw [wrap_id (by omega) (by omega)]; omega
    have e2 : IntKind.i64.wrap (c.toNat : Int) = (c.toNat : Int) := wrap_id (by omega) (by omega)
    have e3 : IntKind.i64.wrap (((numN (u.take i) * 256 : Nat) : Int) + (c.toNat : Int)) = ((numN (u.take i) * 256 + c.toNat : Nat) : Int) := by rw [wrap_id (by omega) (by omega)]; omega
    have e4 : IntKind.i64.wrap ((i : Int) + 1) = ((i + 1 : Nat) : Int) := by rw [wrap_id (by omega) (by omega)]; omega
    simp only [go_sem, ↓reduceIte, reduceCtorEq, upd_ne, back_new (no_at), Nat.reduceAdd, Nat.reduceEqDiff, Nat.reduceMul, Nat.reduceSub, Nat.reduceLeDiff, Nat.reduceLT, Int.reduceToNat, Int.reduceLE, Int.reduceLT, Int.reduceEq, UInt8.reduceOfNat, List.getElem?_map, Int.toNat_natCast, hc, e1, e2, e3, e4]
    exact ⟨k - 1, by omega, i + 1, by omega, by rw [htk, numN_snoc]⟩
  · obtain rfl : i = m := by omega
    rw [List.take_of_length_le (by omega)]
    simp only [go_sem, ↓reduceIte, reduceCtorEq, upd_ne, back_new (no_at), Nat.reduceAdd, Nat.reduceEqDiff, Nat.reduceMul, Nat.reduceSub, Nat.reduceLeDiff, Nat.reduceLT, Int.reduceToNat, Int.reduceLE, Int.reduceLT, Int.reduceEq, UInt8.reduceOfNat, Nxt, exIf]
end
end Go.Ev

/- Layer 1, the program's reader: so many bytes of a text, as a number. -/
namespace Go.Ev
set_option linter.unusedSimpArgs false
set_option linter.unusedVariables false
set_option maxRecDepth 4000
set_option maxHeartbeats 2000000
abbrev nrLV (s : List UInt8) (a : Nat) : LV := .agg [.str s, .int .i64 (a : Int), .nilp]
theorem shl_or (x : Nat) (c : UInt8) (hx : x ≤ 4294967296) : bitsOf .or .i64 (((x * 256 : Nat)) : Int) (c.toNat : Int) = ((x * 256 + c.toNat : Nat) : Int) := by
  have hc := c.toNat_lt
  rw [bits_or_nat (by simp [IntKind.max, IntKind.signed, IntKind.bits]; omega) (by simp [IntKind.max, IntKind.signed, IntKind.bits]; omega)]
  congr 1
  rw [show x * 256 = x <<< 8 by rw [Nat.shiftLeft_eq], ← Nat.shiftLeft_add_eq_or_of_lt hc]
section
variable {S : Sys} (hS : Has S) (n : Nat)
include hS
theorem ev_nText (s : List UInt8) (a m : Nat) (h : a + m ≤ s.length) (hs : s.length ≤ 140737488351232) :
    S.ev (n + 1) id_num_Reader_Text [.ptr 0 0 [] 0, .int .i64 (m : Int)] (some (nrLV s a)) = some (.tup [.str ((s.drop a).take m), .nili], some (nrLV s (a + m))) := by
  rw [Sys.step hS.h_num_Reader_Text, F_num_Reader_Text_eq]
  unfold F_num_Reader_Text
  (try simp only [guard_merge, or_merge, and_merge, or_pick, and_pick, guard_or, guard_and]); simp only [to_ob]
  have f1 : ¬ (m : Int) < 0 := by omega
  have e1 : IntKind.i64.wrap ((s.length : Int) - (a : Int)) = ((s.length - a : Nat) : Int) := by rw [wrap_id (by omega) (by omega)]; omega
  have f2 : ¬ ((s.length - a : Nat) : Int) < (m : Int) := by omega
  have e2 : IntKind.i64.wrap ((a : Int) + (m : Int)) = ((a + m : Nat) : Int) := by rw [wrap_id (by omega) (by omega)]; omega
  have f3 : a ≤ a + m := by omega
  have f4 : a + m - a = m := by omega
  simp only [go_sem, ↓reduceIte, reduceCtorEq, upd_ne, back_new (no_at), Nat.reduceAdd, Nat.reduceEqDiff, Nat.reduceMul, Nat.reduceSub, Nat.reduceLeDiff, Nat.reduceLT, Int.reduceToNat, Int.reduceLE, Int.reduceLT, Int.reduceEq, UInt8.reduceOfNat, f1, e1, f2, e2, f3, f4, h]
theorem ev_nNumber (s : List UInt8) (a m : Nat) (h : a + m ≤ s.length) (hm : m ≤ 4) (hs : s.length ≤ 140737488351232) :
    S.ev (n + 2) id_num_Reader_number [.ptr 0 0 [] 0, .int .i64 (m : Int)] (some (nrLV s a)) = some (.tup [.int .i64 ((numN ((s.drop a).take m) : Nat) : Int), .nili], some (nrLV s (a + m))) := by
  rw [Sys.step hS.h_num_Reader_number, F_num_Reader_number_eq]
  unfold F_num_Reader_number
  have ht := ev_nText hS n s a m h hs
  (try simp only [guard_merge, or_merge, and_merge, or_pick, and_pick, guard_or, guard_and]); simp only [to_ob]
  simp only [go_sem, ↓reduceIte, reduceCtorEq, upd_ne, back_new (no_at), Nat.reduceAdd, Nat.reduceEqDiff, Nat.reduceMul, Nat.reduceSub, Nat.reduceLeDiff, Nat.reduceLT, Int.reduceToNat, Int.reduceLE, Int.reduceLT, Int.reduceEq, UInt8.reduceOfNat, ht]
  have hul : ((s.drop a).take m).length = m := by rw [List.length_take, List.length_drop]; omega
  generalize (s.drop a).take m = u at *
  refine while_rule (fun k q => ∃ i : Nat, i + k = m ∧ q = ([.int .i64 ((numN (u.take i) : Nat) : Int), .int .i64 (i : Int)], upd noSlots 0 (.obj 0 (nrLV s (a + m))))) m ⟨0, by omega, by simp [numN]⟩ ?_
  rintro k q ⟨i, hi, rfl⟩
  simp only [go_sem, ↓reduceIte, reduceCtorEq, upd_ne, back_new (no_at), Nat.reduceAdd, Nat.reduceEqDiff, Nat.reduceMul, Nat.reduceSub, Nat.reduceLeDiff, Nat.reduceLT, Int.reduceToNat, Int.reduceLE, Int.reduceLT, Int.reduceEq, UInt8.reduceOfNat, hul]
  refine nxt_ite (fun h => ?_) (fun h => ?_)
  · have hlt : i < u.length := by omega
    obtain ⟨c, hc⟩ : ∃ c, u[i]? = some c := ⟨u[i], by simp [hlt]⟩
    have htk : u.take (i + 1) = u.take i ++ [c] := by rw [List.take_add_one, hc]; rfl
    have hb := numN_lt (u.take i)
    have hb2 : 256 ^ (u.take i).length ≤ 256 ^ 3 := Nat.pow_le_pow_right (by decide) (by rw [List.length_take]; omega)
    have hb3 : (256 : Nat) ^ 3 = 16777216 := by decide
    have hcl := c.toNat_lt
    have e1 : IntKind.i64.wrap (((numN (u.take i) : Nat) : Int) * 2 ^ min 8 64) = ((numN (u.take i) * 256 : Nat) : Int) := by rw [show min 8 64 = 8 from rfl, wrap_id (by omega) (by omega)]; omega
    have e2 : IntKind.i64.wrap (c.toNat : Int) = (c.toNat : Int) := wrap_id (by omega) (by omega)
    have e3 := shl_or (numN (u.take i)) c (by omega)
    have e4 : IntKind.i64.wrap ((i : Int) + 1) = ((i + 1 : Nat) : Int) := by rw [wrap_id (by omega) (by omega)]; omega
    simp only [go_sem, ↓reduceIte, reduceCtorEq, upd_ne, back_new (no_at), Nat.reduceAdd, Nat.reduceEqDiff, Nat.reduceMul, Nat.reduceSub, Nat.reduceLeDiff, Nat.reduceLT, Int.reduceToNat, Int.reduceLE, Int.reduceLT, Int.reduceEq, UInt8.reduceOfNat, List.getElem?_map, Int.toNat_natCast, hc, e1, e2, e3, e4]
    exact ⟨k - 1, by omega, i + 1, by omega, by rw [htk, numN_snoc]⟩
  · obtain rfl : i = m := by omega
    rw [List.take_of_length_le (by omega)]
    simp only [go_sem, ↓reduceIte, reduceCtorEq, upd_ne, back_new (no_at), Nat.reduceAdd, Nat.reduceEqDiff, Nat.reduceMul, Nat.reduceSub, Nat.reduceLeDiff, Nat.reduceLT, Int.reduceToNat, Int.reduceLE, Int.reduceLT, Int.reduceEq, UInt8.reduceOfNat, Nxt, exIf]
theorem ev_U32 (s : List UInt8) (a : Nat) (h : a + 4 ≤ s.length) (hs : s.length ≤ 140737488351232) :
    S.ev (n + 3) id_num_Reader_U32 [.ptr 0 0 [] 0] (some (nrLV s a)) = some (.tup [.int .i64 ((numN ((s.drop a).take 4) : Nat) : Int), .nili], some (nrLV s (a + 4))) := by
  rw [Sys.step hS.h_num_Reader_U32, F_num_Reader_U32_eq]
  unfold F_num_Reader_U32
  have ht : S.ev (n + 2) id_num_Reader_number [.ptr 0 0 [] 0, .int .i64 4] (some (nrLV s a)) = some (.tup [.int .i64 ((numN ((s.drop a).take 4) : Nat) : Int), .nili], some (nrLV s (a + 4))) := ev_nNumber hS n s a 4 h (by omega) hs
  (try simp only [guard_merge, or_merge, and_merge, or_pick, and_pick, guard_or, guard_and]); simp only [to_ob]
  simp only [go_sem, ↓reduceIte, reduceCtorEq, upd_ne, back_new (no_at), Nat.reduceAdd, Nat.reduceEqDiff, Nat.reduceMul, Nat.reduceSub, Nat.reduceLeDiff, Nat.reduceLT, Int.reduceToNat, Int.reduceLE, Int.reduceLT, Int.reduceEq, UInt8.reduceOfNat, ht]
theorem ev_New (s : List UInt8) : S.ev (n + 1) id_num_New [.str s] none = some (.fresh (nrLV s 0), none) := by
  rw [Sys.step hS.h_num_New, F_num_New_eq]
  unfold F_num_New
  (try simp only [guard_merge, or_merge, and_merge, or_pick, and_pick, guard_or, guard_and]); simp only [to_ob]
  simp only [go_sem, ↓reduceIte, reduceCtorEq, upd_ne, back_new (no_at), Nat.reduceAdd, Nat.reduceEqDiff, Nat.reduceMul, Nat.reduceSub, Nat.reduceLeDiff, Nat.reduceLT, Int.reduceToNat, Int.reduceLE, Int.reduceLT, Int.reduceEq, UInt8.reduceOfNat, Int.natCast_zero]
  try rfl
end
end Go.Ev

/- Layer 4: routes that are not used up. -/
namespace Go.Ev
set_option linter.unusedSimpArgs false
set_option linter.unusedVariables false
set_option maxRecDepth 4000
set_option maxHeartbeats 1000000
/-- A route that is not used up. -/
def open1 (e : Int × List UInt8) : Bool := decide (e.1 = 43) && (decide (1 < e.2.length) && decide (e.2[1]?.getD 0 ≠ 0))
def routedS (l : List (Int × List UInt8)) : Bool := l.any open1
theorem p_routed {g : Call} (l : List (Int × List UInt8)) (hl : l.length ≤ 9223372036854775806) : F_ip6_Routed g (extsLV l) = some (.bool (routedS l), none) := by
  unfold F_ip6_Routed extsLV
  (try simp only [guard_merge, or_merge, and_merge, or_pick, and_pick, guard_or, guard_and]); simp only [to_ob, ↓e_lenL, List.length_map]
  refine while_rule (fun n s => ∃ i : Nat, s = ([.bool false, .int .i64 (i : Int)], noSlots) ∧ i + n = l.length ∧ routedS (l.drop i) = routedS l) l.length ⟨0, rfl, by simp, by simp⟩ ?_
  rintro n s ⟨i, rfl, hi, hr⟩
  simp only [go_sem, ↓reduceIte, reduceCtorEq, upd_ne, back_new (no_at), Nat.reduceAdd, Nat.reduceEqDiff, Nat.reduceMul, Nat.reduceSub, Nat.reduceLeDiff, Nat.reduceLT, Int.reduceToNat, Int.reduceLE, Int.reduceLT, Int.reduceEq, UInt8.reduceOfNat]
  refine nxt_ite (fun h => ?_) (fun h => ?_)
  · have hlt : i < l.length := by omega
    obtain ⟨e, he⟩ : ∃ e, l[i]? = some e := ⟨l[i], by simp [hlt]⟩
    have hd : l.drop i = e :: l.drop (i + 1) := by
      rw [List.drop_eq_getElem_cons hlt]; congr 1; simpa [hlt] using he
    simp only [List.getElem?_map, Int.toNat_natCast, he, go_sem, ↓reduceIte, reduceCtorEq, upd_ne, back_new (no_at), Nat.reduceAdd, Nat.reduceEqDiff, Nat.reduceMul, Nat.reduceSub, Nat.reduceLeDiff, Nat.reduceLT, Int.reduceToNat, Int.reduceLE, Int.reduceLT, Int.reduceEq, UInt8.reduceOfNat]
    by_cases h1 : e.1 = 43 ∧ 1 < e.2.length
    · obtain ⟨h1, h2⟩ := h1
      have h2' : (1 : Int) < (e.2.length : Int) := by omega
      obtain ⟨c, hc⟩ : ∃ c, e.2[1]? = some c := ⟨e.2[1], by simp [h2]⟩
      simp only [h1, h2', hc, decide_true, go_sem, ↓reduceIte, reduceCtorEq, upd_ne, back_new (no_at), Nat.reduceAdd, Nat.reduceEqDiff, Nat.reduceMul, Nat.reduceSub, Nat.reduceLeDiff, Nat.reduceLT, Int.reduceToNat, Int.reduceLE, Int.reduceLT, Int.reduceEq, UInt8.reduceOfNat]
      refine nxt_ite (fun h3 => ?_) (fun h3 => ?_)
      · have : routedS l = true := by
          rw [← hr, hd]
          simp only [routedS, List.any_cons, open1, h1, h2, hc]
          have : c ≠ 0 := fun e => h3 (by rw [e]; rfl)
          simp [this]
        rw [this]
        simp only [Nxt, exIf, true_and, go_sem, ↓reduceIte, reduceCtorEq, upd_ne, back_new (no_at), Nat.reduceAdd, Nat.reduceEqDiff, Nat.reduceMul, Nat.reduceSub, Nat.reduceLeDiff, Nat.reduceLT, Int.reduceToNat, Int.reduceLE, Int.reduceLT, Int.reduceEq, UInt8.reduceOfNat]
      · refine ⟨n - 1, by omega, i + 1, ?_, by omega, ?_⟩
        · rw [wrap_id (by omega) (by omega)]
          rfl
        · rw [← hr, hd]
          have : c = 0 := by
            have : (c.toNat : Int) = 0 := by simpa using h3
            exact UInt8.toNat_inj.1 (by simpa using this)
          simp [routedS, open1, h1, hc, this]
    · have : (decide (e.1 = 43) && decide ((1 : Int) < (e.2.length : Int))) = false := by
        simp only [Bool.and_eq_false_iff, decide_eq_false_iff_not]
        by_cases h2 : e.1 = 43
        · exact .inr (fun h3 => h1 ⟨h2, by omega⟩)
        · exact .inl h2
      simp only [this, go_sem, ↓reduceIte, reduceCtorEq, upd_ne, back_new (no_at), Nat.reduceAdd, Nat.reduceEqDiff, Nat.reduceMul, Nat.reduceSub, Nat.reduceLeDiff, Nat.reduceLT, Int.reduceToNat, Int.reduceLE, Int.reduceLT, Int.reduceEq, UInt8.reduceOfNat]
      refine ⟨n - 1, by omega, i + 1, ?_, by omega, ?_⟩
      · rw [wrap_id (by omega) (by omega)]
        rfl
      · rw [← hr, hd]
        have : open1 e = false := by
          unfold open1
          by_cases h2 : e.1 = 43
          · have : ¬ 1 < e.2.length := fun h3 => h1 ⟨h2, h3⟩
            simp [this]
          · simp [h2]
        simp [routedS, this]
  · rw [List.drop_eq_nil_of_le (by omega)] at hr
    simp only [Nxt, exIf, true_and, go_sem, ↓reduceIte, reduceCtorEq, upd_ne, back_new (no_at), Nat.reduceAdd, Nat.reduceEqDiff, Nat.reduceMul, Nat.reduceSub, Nat.reduceLeDiff, Nat.reduceLT, Int.reduceToNat, Int.reduceLE, Int.reduceLT, Int.reduceEq, UInt8.reduceOfNat]
    rw [← hr]
    simp [routedS]
theorem r_routed {g : Call} (l : List (Int × List UInt8)) (hl : l.length ≤ 9223372036854775806) : F_interpreterref04_Routed g (extsLV l) = some (.bool (routedS l), none) := by
  unfold F_interpreterref04_Routed extsLV
  (try simp only [guard_merge, or_merge, and_merge, or_pick, and_pick, guard_or, guard_and]); simp only [to_ob, ↓e_lenL, List.length_map]
  refine while_rule (fun n s => ∃ i : Nat, s = ([.bool false, .int .i64 (i : Int)], noSlots) ∧ i + n = l.length ∧ routedS (l.drop i) = routedS l) l.length ⟨0, rfl, by simp, by simp⟩ ?_
  rintro n s ⟨i, rfl, hi, hr⟩
  simp only [go_sem, ↓reduceIte, reduceCtorEq, upd_ne, back_new (no_at), Nat.reduceAdd, Nat.reduceEqDiff, Nat.reduceMul, Nat.reduceSub, Nat.reduceLeDiff, Nat.reduceLT, Int.reduceToNat, Int.reduceLE, Int.reduceLT, Int.reduceEq, UInt8.reduceOfNat]
  refine nxt_ite (fun h => ?_) (fun h => ?_)
  · have hlt : i < l.length := by omega
    obtain ⟨e, he⟩ : ∃ e, l[i]? = some e := ⟨l[i], by simp [hlt]⟩
    have hd : l.drop i = e :: l.drop (i + 1) := by
      rw [List.drop_eq_getElem_cons hlt]; congr 1; simpa [hlt] using he
    simp only [List.getElem?_map, Int.toNat_natCast, he, go_sem, ↓reduceIte, reduceCtorEq, upd_ne, back_new (no_at), Nat.reduceAdd, Nat.reduceEqDiff, Nat.reduceMul, Nat.reduceSub, Nat.reduceLeDiff, Nat.reduceLT, Int.reduceToNat, Int.reduceLE, Int.reduceLT, Int.reduceEq, UInt8.reduceOfNat]
    by_cases h1 : e.1 = 43 ∧ 1 < e.2.length
    · obtain ⟨h1, h2⟩ := h1
      have h2' : (2 : Int) ≤ (e.2.length : Int) := by omega
      obtain ⟨c, hc⟩ : ∃ c, e.2[1]? = some c := ⟨e.2[1], by simp [h2]⟩
      simp only [h1, h2', hc, decide_true, go_sem, ↓reduceIte, reduceCtorEq, upd_ne, back_new (no_at), Nat.reduceAdd, Nat.reduceEqDiff, Nat.reduceMul, Nat.reduceSub, Nat.reduceLeDiff, Nat.reduceLT, Int.reduceToNat, Int.reduceLE, Int.reduceLT, Int.reduceEq, UInt8.reduceOfNat]
      refine nxt_ite (fun h3 => ?_) (fun h3 => ?_)
      · have : routedS l = true := by
          rw [← hr, hd]
          simp only [routedS, List.any_cons, open1, h1, h2, hc]
          have : c ≠ 0 := fun e => h3 (by rw [e]; rfl)
          simp [this]
        rw [this]
        simp only [Nxt, exIf, true_and, go_sem, ↓reduceIte, reduceCtorEq, upd_ne, back_new (no_at), Nat.reduceAdd, Nat.reduceEqDiff, Nat.reduceMul, Nat.reduceSub, Nat.reduceLeDiff, Nat.reduceLT, Int.reduceToNat, Int.reduceLE, Int.reduceLT, Int.reduceEq, UInt8.reduceOfNat]
      · refine ⟨n - 1, by omega, i + 1, ?_, by omega, ?_⟩
        · rw [wrap_id (by omega) (by omega)]
          rfl
        · rw [← hr, hd]
          have : c = 0 := by
            have : (c.toNat : Int) = 0 := by simpa using h3
            exact UInt8.toNat_inj.1 (by simpa using this)
          simp [routedS, open1, h1, hc, this]
    · have : (decide (e.1 = 43) && decide ((2 : Int) ≤ (e.2.length : Int))) = false := by
        simp only [Bool.and_eq_false_iff, decide_eq_false_iff_not]
        by_cases h2 : e.1 = 43
        · exact .inr (fun h3 => h1 ⟨h2, by omega⟩)
        · exact .inl h2
      simp only [this, go_sem, ↓reduceIte, reduceCtorEq, upd_ne, back_new (no_at), Nat.reduceAdd, Nat.reduceEqDiff, Nat.reduceMul, Nat.reduceSub, Nat.reduceLeDiff, Nat.reduceLT, Int.reduceToNat, Int.reduceLE, Int.reduceLT, Int.reduceEq, UInt8.reduceOfNat]
      refine ⟨n - 1, by omega, i + 1, ?_, by omega, ?_⟩
      · rw [wrap_id (by omega) (by omega)]
        rfl
      · rw [← hr, hd]
        have : open1 e = false := by
          unfold open1
          by_cases h2 : e.1 = 43
          · have : ¬ 1 < e.2.length := fun h3 => h1 ⟨h2, h3⟩
            simp [this]
          · simp [h2]
        simp [routedS, this]
  · rw [List.drop_eq_nil_of_le (by omega)] at hr
    simp only [Nxt, exIf, true_and, go_sem, ↓reduceIte, reduceCtorEq, upd_ne, back_new (no_at), Nat.reduceAdd, Nat.reduceEqDiff, Nat.reduceMul, Nat.reduceSub, Nat.reduceLeDiff, Nat.reduceLT, Int.reduceToNat, Int.reduceLE, Int.reduceLT, Int.reduceEq, UInt8.reduceOfNat]
    rw [← hr]
    simp [routedS]
section
variable {S : Sys} (hS : Has S) (n : Nat)
include hS
theorem ev_routed (l : List (Int × List UInt8)) (hl : l.length ≤ 9223372036854775806) : S.ev (n + 1) id_ip6_Routed [extsLV l] none = some (.bool (routedS l), none) := by
  rw [Sys.step hS.h_ip6_Routed, F_ip6_Routed_eq, p_routed l hl]
theorem ev_rrouted (l : List (Int × List UInt8)) (hl : l.length ≤ 9223372036854775806) : S.ev (n + 1) id_interpreterref04_Routed [extsLV l] none = some (.bool (routedS l), none) := by
  rw [Sys.step hS.h_interpreterref04_Routed, F_interpreterref04_Routed_eq, r_routed l hl]
end
end Go.Ev

/- Layer 4: chains of extensions. -/
namespace Go.Ev
set_option linter.unusedSimpArgs false
set_option linter.unusedVariables false
set_option maxRecDepth 4000
set_option maxHeartbeats 4000000
abbrev ChR := Int × List (Int × List UInt8) × Int × List UInt8
abbrev isE (k : Int) : Prop := (k = 0 ∨ k = 43) ∨ k = 60
def sz6 (s : List UInt8) : Nat := 8 * (1 + bAt s 1)
def chC : Nat → Bool → Int → List UInt8 → ChR
  | 0, first, next, s => if isE next then (if next = 0 ∧ first = false then (8, [], 0, []) else (3, [], 0, [])) else (0, [], next, s)
  | k + 1, first, next, s =>
    if isE next then
      if next = 0 ∧ first = false then (8, [], 0, [])
      else if s.length < sz6 s then (7, [], 0, [])
      else
        let r := chC k false ((bAt s 0 : Nat) : Int) (s.drop (sz6 s))
        if r.1 = 0 then (0, (next, (s.drop 2).take (sz6 s - 2)) :: r.2.1, r.2.2) else r
    else (0, [], next, s)
/-- What a chain is, behind those that are known. -/
def chP (acc : List (Int × List UInt8)) (r : ChR) : ChR := if r.1 = 0 then (0, acc ++ r.2.1, r.2.2) else r
theorem chC_err : ∀ (k : Nat) (f : Bool) (next : Int) (s : List UInt8), (chC k f next s).1 ≠ 0 → chC k f next s = ((chC k f next s).1, [], 0, [])
  | 0, f, next, s => by
    unfold chC
    split
    · split <;> simp
    · simp
  | k + 1, f, next, s => by
    unfold chC
    split
    · split
      · simp
      · split
        · simp
        · simp only
          split
          · simp
          · rename_i h
            intro _
            exact chC_err k false _ _ h
    · simp
theorem chP_nil (k : Nat) (f : Bool) (next : Int) (s : List UInt8) : chP [] (chC k f next s) = chC k f next s := by
  unfold chP
  split
  · rename_i h
    rw [List.nil_append, ← h]
  · rfl
theorem chP_step {acc : List (Int × List UInt8)} {k : Nat} {f : Bool} {next : Int} {s : List UInt8} (h1 : isE next) (h2 : ¬ (next = 0 ∧ f = false)) (h3 : ¬ s.length < sz6 s) :
    chP acc (chC (k + 1) f next s) = chP (acc ++ [(next, (s.drop 2).take (sz6 s - 2))]) (chC k false ((bAt s 0 : Nat) : Int) (s.drop (sz6 s))) := by
  rw [chC, if_pos h1, if_neg h2, if_neg h3]
  generalize chC k false ((bAt s 0 : Nat) : Int) (s.drop (sz6 s)) = r
  unfold chP
  by_cases h : r.1 = 0
  · simp only [h, if_true, List.append_assoc, List.cons_append, List.nil_append]
  · simp only [h, if_false]
def chLV (r : ChR) : LV := .tup [extsLV r.2.1, .int .i64 r.2.2.1, .str r.2.2.2, fE r.1]
def chLV' (r : ChR) : LV := .tup [extsLV r.2.1, .int .i64 r.2.2.1, .str r.2.2.2, .int .i64 r.1]
section
variable {S : Sys} (hS : Has S) (n : Nat)
include hS
theorem ev_fault6 (c : Int) : S.ev (n + 1) id_ip6_fault [.int .i64 c] none = some (faultLV c, none) := by
  rw [Sys.step hS.h_ip6_fault, F_ip6_fault_eq]
  unfold F_ip6_fault
  simp only [to_ob]
  simp only [go_sem, ↓reduceIte, reduceCtorEq, upd_ne, back_new (no_at), Nat.reduceAdd, Nat.reduceEqDiff, Nat.reduceMul, Nat.reduceSub, Nat.reduceLeDiff, Nat.reduceLT, Int.reduceToNat, Int.reduceLE, Int.reduceLT, Int.reduceEq, UInt8.reduceOfNat]
theorem ev_extends (k : Int) : S.ev (n + 1) id_ip6_extends [.int .i64 k] none = some (.bool (decide (isE k)), none) := by
  rw [Sys.step hS.h_ip6_extends, F_ip6_extends_eq]
  unfold F_ip6_extends
  (try simp only [guard_merge, or_merge, and_merge, or_pick, and_pick, guard_or, guard_and]); simp only [to_ob]
  by_cases h1 : k = 0 <;> by_cases h2 : k = 43 <;> by_cases h3 : k = 60 <;> simp only [go_sem, ↓reduceIte, reduceCtorEq, upd_ne, back_new (no_at), Nat.reduceAdd, Nat.reduceEqDiff, Nat.reduceMul, Nat.reduceSub, Nat.reduceLeDiff, Nat.reduceLT, Int.reduceToNat, Int.reduceLE, Int.reduceLT, Int.reduceEq, UInt8.reduceOfNat, h1, h2, h3] <;> first | rfl | simp [h1, h2, h3]
theorem ev_chain6 (next : Int) (s : List UInt8) (hs : s.length ≤ 140737488351232) : S.ev (n + 2) id_ip6_Chain [.int .i64 next, .str s] none = some (chLV (chC 8 true next s), none) := by
  rw [Sys.step hS.h_ip6_Chain, F_ip6_Chain_eq]
  unfold F_ip6_Chain
  have hx := ev_extends hS n
  have hfa := ev_fault6 hS n
  (try simp only [guard_merge, or_merge, and_merge, or_pick, and_pick, guard_or, guard_and]); simp only [to_ob]
  refine while_rule (fun k q => ∃ (acc : List (Int × List UInt8)) (next' : Int) (t : List UInt8), q = ([tagL 49 (acc.map extLV), .int .i64 0, .str [], .nili, .int .i64 next', .str t], tagS 49 2 (acc.map extLV)) ∧ acc.length + k = 8 ∧ t.length ≤ s.length ∧ chP acc (chC k acc.isEmpty next' t) = chC 8 true next s) 8 ⟨[], next, s, rfl, rfl, Nat.le_refl _, chP_nil _ _ _ _⟩ ?_
  rintro k q ⟨acc, next', t, rfl, hk, ht, hr⟩
  by_cases c1 : isE next'
  · have c1' : decide (isE next') = true := decide_eq_true c1
    by_cases c2 : next' = 0 ∧ acc.isEmpty = false
    · have c2' := c2
      obtain ⟨rfl, c2x⟩ := c2'
      have c2a : 0 < (acc.length : Int) := by
        cases acc with
        | nil => simp at c2x
        | cons x l => simp only [List.length_cons]; omega
      have hr : chC 8 true next s = (8, [], 0, []) := by
        rw [← hr]
        cases k with
        | zero => rw [chC, if_pos c1, if_pos c2]; rfl
        | succ k => rw [chC, if_pos c1, if_pos c2]; rfl
      rw [hr]
      by_cases c3 : 2 ≤ t.length
      · have c3' : 2 ≤ (t.length : Int) := by omega
        have g1 := get_def (s := t) (i := 1) (by omega)
        simp only [go_sem, ↓reduceIte, reduceCtorEq, upd_ne, back_new (no_at), Nat.reduceAdd, Nat.reduceEqDiff, Nat.reduceMul, Nat.reduceSub, Nat.reduceLeDiff, Nat.reduceLT, Int.reduceToNat, Int.reduceLE, Int.reduceLT, Int.reduceEq, UInt8.reduceOfNat, List.getElem?_map, Int.toNat_natCast, hx, hfa, c1', c2a, c3', g1, List.length_map, Nxt, exIf, chLV, fE]
        try rfl
      · have c3' : ¬ 2 ≤ (t.length : Int) := by omega
        simp only [go_sem, ↓reduceIte, reduceCtorEq, upd_ne, back_new (no_at), Nat.reduceAdd, Nat.reduceEqDiff, Nat.reduceMul, Nat.reduceSub, Nat.reduceLeDiff, Nat.reduceLT, Int.reduceToNat, Int.reduceLE, Int.reduceLT, Int.reduceEq, UInt8.reduceOfNat, List.getElem?_map, Int.toNat_natCast, hx, hfa, c1', c2a, c3', List.length_map, Nxt, exIf, chLV, fE]
        try rfl
    · have c2b : ¬ (next' = 0 ∧ 0 < (acc.length : Int)) := by
        rintro ⟨h1, h2⟩
        apply c2
        refine ⟨h1, ?_⟩
        cases acc with
        | nil => simp at h2
        | cons x l => rfl
      have hd : (andK (.bool (decide (next' = 0))) (some (.bool (decide (0 < (acc.length : Int)))))) = some (.bool false) := by
        by_cases h : next' = 0
        · have : ¬ 0 < (acc.length : Int) := fun q => c2b ⟨h, q⟩
          rw [decide_eq_true h, decide_eq_false this]; rfl
        · rw [decide_eq_false h]; rfl
      cases k with
      | zero =>
        have c4 : 8 ≤ (acc.length : Int) := by omega
        have hr : chC 8 true next s = (3, [], 0, []) := by
          rw [← hr, chC, if_pos c1, if_neg c2]; rfl
        rw [hr]
        by_cases c3 : 2 ≤ t.length
        · have c3' : 2 ≤ (t.length : Int) := by omega
          have g1 := get_def (s := t) (i := 1) (by omega)
          simp only [go_sem, ↓reduceIte, reduceCtorEq, upd_ne, back_new (no_at), Nat.reduceAdd, Nat.reduceEqDiff, Nat.reduceMul, Nat.reduceSub, Nat.reduceLeDiff, Nat.reduceLT, Int.reduceToNat, Int.reduceLE, Int.reduceLT, Int.reduceEq, UInt8.reduceOfNat, List.getElem?_map, Int.toNat_natCast, hx, hfa, c1', hd, c4, c3', g1, List.length_map, Nxt, exIf, chLV, fE]
          try rfl
        · have c3' : ¬ 2 ≤ (t.length : Int) := by omega
          simp only [go_sem, ↓reduceIte, reduceCtorEq, upd_ne, back_new (no_at), Nat.reduceAdd, Nat.reduceEqDiff, Nat.reduceMul, Nat.reduceSub, Nat.reduceLeDiff, Nat.reduceLT, Int.reduceToNat, Int.reduceLE, Int.reduceLT, Int.reduceEq, UInt8.reduceOfNat, List.getElem?_map, Int.toNat_natCast, hx, hfa, c1', hd, c4, c3', List.length_map, Nxt, exIf, chLV, fE]
          try rfl
      | succ k =>
        have c4 : ¬ 8 ≤ (acc.length : Int) := by omega
        by_cases c3 : 2 ≤ t.length
        · have c3' : 2 ≤ (t.length : Int) := by omega
          have g0 := get_def (s := t) (i := 0) (by omega)
          have g1 := get_def (s := t) (i := 1) (by omega)
          have hb1 := bAt_le t 1
          have hb0 := bAt_le t 0
          have e1 : IntKind.i64.wrap ((t.getD 1 0).toNat : Int) = ((bAt t 1 : Nat) : Int) := wrap_id (by omega) (by unfold bAt at hb1; omega)
          have e0 : IntKind.i64.wrap ((t.getD 0 0).toNat : Int) = ((bAt t 0 : Nat) : Int) := wrap_id (by omega) (by unfold bAt at hb0; omega)
          have e2 : IntKind.i64.wrap (8 + IntKind.i64.wrap (((bAt t 1 : Nat) : Int) * 8)) = ((sz6 t : Nat) : Int) := by
            rw [wrap_id (n := ((bAt t 1 : Nat) : Int) * 8) (by omega) (by omega), wrap_id (by omega) (by omega)]; unfold sz6; omega
          by_cases c5 : t.length < sz6 t
          · have c5' : (t.length : Int) < ((sz6 t : Nat) : Int) := by omega
            have hr : chC 8 true next s = (7, [], 0, []) := by
              rw [← hr, chC, if_pos c1, if_neg c2, if_pos c5]; rfl
            rw [hr]
            simp only [go_sem, ↓reduceIte, reduceCtorEq, upd_ne, back_new (no_at), Nat.reduceAdd, Nat.reduceEqDiff, Nat.reduceMul, Nat.reduceSub, Nat.reduceLeDiff, Nat.reduceLT, Int.reduceToNat, Int.reduceLE, Int.reduceLT, Int.reduceEq, UInt8.reduceOfNat, List.getElem?_map, Int.toNat_natCast, hx, hfa, c1', hd, c4, c3', g1, byteLV, e1, e2, c5', List.length_map, Nxt, exIf, chLV, fE]
            try rfl
          · have c5' : ¬ (t.length : Int) < ((sz6 t : Nat) : Int) := by omega
            have l1 : sz6 t ≤ t.length := by omega
            have l2 : 2 ≤ sz6 t := by unfold sz6; omega
            have ha := wApp_tag (t := 49) (by' := 24) (ext_flat acc) (show flatLen (extLV (next', (t.drop 2).take (sz6 t - 2))) = 2 by simp [flatLen, sumLen]) (by simp; omega)
            have hm : acc.map extLV ++ [extLV (next', (t.drop 2).take (sz6 t - 2))] = (acc ++ [(next', (t.drop 2).take (sz6 t - 2))]).map extLV := by simp
            rw [hm] at ha
            simp only [go_sem, ↓reduceIte, reduceCtorEq, upd_ne, back_new (no_at), Nat.reduceAdd, Nat.reduceEqDiff, Nat.reduceMul, Nat.reduceSub, Nat.reduceLeDiff, Nat.reduceLT, Int.reduceToNat, Int.reduceLE, Int.reduceLT, Int.reduceEq, UInt8.reduceOfNat, List.getElem?_map, Int.toNat_natCast, hx, hfa, c1', hd, c4, c3', g0, g1, byteLV, e0, e1, e2, c5', l1, l2, ha, List.length_map, Nat.le_refl]
            refine ⟨k, by omega, acc ++ [(next', (t.drop 2).take (sz6 t - 2))], ((bAt t 0 : Nat) : Int), t.drop (sz6 t), ?_, by simp; omega, by simp; omega, ?_⟩
            · rfl
            · rw [← hr, chP_step c1 c2 c5]
              congr 2
              cases acc <;> rfl
        · have c3' : ¬ 2 ≤ (t.length : Int) := by omega
          have c5 : t.length < sz6 t := by unfold sz6; omega
          have c5' : (t.length : Int) < 8 := by omega
          have hr : chC 8 true next s = (7, [], 0, []) := by
            rw [← hr, chC, if_pos c1, if_neg c2, if_pos c5]; rfl
          rw [hr]
          simp only [go_sem, ↓reduceIte, reduceCtorEq, upd_ne, back_new (no_at), Nat.reduceAdd, Nat.reduceEqDiff, Nat.reduceMul, Nat.reduceSub, Nat.reduceLeDiff, Nat.reduceLT, Int.reduceToNat, Int.reduceLE, Int.reduceLT, Int.reduceEq, UInt8.reduceOfNat, List.getElem?_map, Int.toNat_natCast, hx, hfa, c1', hd, c4, c3', c5', List.length_map, Nxt, exIf, chLV, fE]
          try rfl
  · have c1' : decide (isE next') = false := decide_eq_false c1
    have hr : chC 8 true next s = (0, acc, next', t) := by
      rw [← hr]
      cases k with
      | zero => rw [chC, if_neg c1]; simp [chP]
      | succ k => rw [chC, if_neg c1]; simp [chP]
    rw [hr]
    simp only [go_sem, ↓reduceIte, reduceCtorEq, upd_ne, back_new (no_at), Nat.reduceAdd, Nat.reduceEqDiff, Nat.reduceMul, Nat.reduceSub, Nat.reduceLeDiff, Nat.reduceLT, Int.reduceToNat, Int.reduceLE, Int.reduceLT, Int.reduceEq, UInt8.reduceOfNat, List.getElem?_map, Int.toNat_natCast, hx, c1', Nxt, exIf, chLV, fE]
    try rfl
end
end Go.Ev

/- Layer 4, the document's: chains; numbers. -/
namespace Go.Ev
set_option linter.unusedSimpArgs false
set_option linter.unusedVariables false
set_option maxRecDepth 4000
set_option maxHeartbeats 4000000
theorem num4_lt (s : List UInt8) : numN (s.take 4) < 4294967296 := by
  have h := numN_lt (s.take 4)
  have h2 : 256 ^ (s.take 4).length ≤ 256 ^ 4 := Nat.pow_le_pow_right (by decide) (by rw [List.length_take]; omega)
  have h3 : (256 : Nat) ^ 4 = 4294967296 := by decide
  omega
section
variable {S : Sys} (hS : Has S) (n : Nat)
include hS
theorem ev_number6 (s : List UInt8) (i m : Nat) (h : i + m ≤ s.length) (hm : m ≤ 4) (hs : s.length ≤ 140737488351232) : S.ev (n + 3) id_interpreterref04_number [.str s, .int .i64 (i : Int), .int .i64 (m : Int)] none = some (.int .i64 ((numN ((s.drop i).take m) : Nat) : Int), none) := by
  rw [Sys.step hS.h_interpreterref04_number, F_interpreterref04_number_eq]
  unfold F_interpreterref04_number
  have ht := ev_rNumber hS n s i m h hm hs
  simp only [to_ob]
  simp only [go_sem, ↓reduceIte, reduceCtorEq, upd_ne, back_new (no_at), Nat.reduceAdd, Nat.reduceEqDiff, Nat.reduceMul, Nat.reduceSub, Nat.reduceLeDiff, Nat.reduceLT, Int.reduceToNat, Int.reduceLE, Int.reduceLT, Int.reduceEq, UInt8.reduceOfNat, ht]
theorem ev_rchain6 (next : Int) (s : List UInt8) (hs : s.length ≤ 140737488351232) : S.ev (n + 1) id_interpreterref04_Chain [.int .i64 next, .str s] none = some (chLV' (chC 8 true next s), none) := by
  rw [Sys.step hS.h_interpreterref04_Chain, F_interpreterref04_Chain_eq]
  unfold F_interpreterref04_Chain
  (try simp only [guard_merge, or_merge, and_merge, or_pick, and_pick, guard_or, guard_and]); simp only [to_ob]
  simp only [go_sem, ↓reduceIte, reduceCtorEq, upd_ne, back_new (no_at), Nat.reduceAdd, Nat.reduceEqDiff, Nat.reduceMul, Nat.reduceSub, Nat.reduceLeDiff, Nat.reduceLT, Int.reduceToNat, Int.reduceLE, Int.reduceLT, Int.reduceEq, UInt8.reduceOfNat]
  refine while_rule (fun k q => ∃ (acc : List (Int × List UInt8)) (next' : Int) (t : List UInt8), q = ([.nils, .int .i64 0, .str [], .int .i64 0, .lst (some (8, 1)) (acc.map extLV), .int .i64 next', .str t], upd noSlots 8 (.tag 1 acc.length 2)) ∧ acc.length + k = 8 ∧ t.length ≤ s.length ∧ chP acc (chC k acc.isEmpty next' t) = chC 8 true next s) 8 ⟨[], next, s, rfl, rfl, Nat.le_refl _, chP_nil _ _ _ _⟩ ?_
  rintro k q ⟨acc, next', t, rfl, hk, ht, hr⟩
  by_cases c1 : isE next'
  · by_cases c2 : next' = 0 ∧ acc.isEmpty = false
    · have c2' := c2
      obtain ⟨rfl, c2x⟩ := c2'
      have c2a : 0 < (acc.length : Int) := by
        cases acc with
        | nil => simp at c2x
        | cons x l => simp only [List.length_cons]; omega
      have hr : chC 8 true next s = (8, [], 0, []) := by
        rw [← hr]
        cases k with
        | zero => rw [chC, if_pos c1, if_pos c2]; rfl
        | succ k => rw [chC, if_pos c1, if_pos c2]; rfl
      rw [hr]
      simp only [go_sem, ↓reduceIte, reduceCtorEq, upd_ne, back_new (no_at), Nat.reduceAdd, Nat.reduceEqDiff, Nat.reduceMul, Nat.reduceSub, Nat.reduceLeDiff, Nat.reduceLT, Int.reduceToNat, Int.reduceLE, Int.reduceLT, Int.reduceEq, UInt8.reduceOfNat, List.getElem?_map, Int.toNat_natCast, c2a, List.length_map, Nxt, exIf, chLV']
      try rfl
    · have c2b : ¬ (next' = 0 ∧ 0 < (acc.length : Int)) := by
        rintro ⟨h1, h2⟩
        apply c2
        refine ⟨h1, ?_⟩
        cases acc with
        | nil => simp at h2
        | cons x l => rfl
      have hzz : ((next' = 0) = True ∧ ¬ 0 < (acc.length : Int)) ∨ (¬ next' = 0 ∧ (next' = 43 ∨ next' = 60)) := by
        by_cases h : next' = 0
        · exact Or.inl ⟨eq_true h, fun q => c2b ⟨h, q⟩⟩
        · refine Or.inr ⟨h, ?_⟩
          rcases c1 with (q | q) | q
          · exact absurd q h
          · exact Or.inl q
          · exact Or.inr q
      rcases hzz with ⟨hz, hz2⟩ | ⟨hz, hz2⟩
      · cases k with
        | zero =>
          have c4 : (acc.length : Int) = 8 := by omega
          have hr : chC 8 true next s = (3, [], 0, []) := by
            rw [← hr, chC, if_pos c1, if_neg c2]; rfl
          rw [hr]
          first | (exfalso; omega) | simp only [go_sem, ↓reduceIte, reduceCtorEq, upd_ne, back_new (no_at), Nat.reduceAdd, Nat.reduceEqDiff, Nat.reduceMul, Nat.reduceSub, Nat.reduceLeDiff, Nat.reduceLT, Int.reduceToNat, Int.reduceLE, Int.reduceLT, Int.reduceEq, UInt8.reduceOfNat, List.getElem?_map, Int.toNat_natCast, hz, hz2, c4, List.length_map, Nxt, exIf, chLV']
          try rfl
        | succ k =>
          have c4 : ¬ (acc.length : Int) = 8 := by omega
          by_cases c3 : t.length < 8
          · have c3' : (t.length : Int) < 8 := by omega
            have c5 : t.length < sz6 t := by unfold sz6; omega
            have hr : chC 8 true next s = (7, [], 0, []) := by
              rw [← hr, chC, if_pos c1, if_neg c2, if_pos c5]; rfl
            rw [hr]
            simp only [go_sem, ↓reduceIte, reduceCtorEq, upd_ne, back_new (no_at), Nat.reduceAdd, Nat.reduceEqDiff, Nat.reduceMul, Nat.reduceSub, Nat.reduceLeDiff, Nat.reduceLT, Int.reduceToNat, Int.reduceLE, Int.reduceLT, Int.reduceEq, UInt8.reduceOfNat, List.getElem?_map, Int.toNat_natCast, hz, hz2, c4, c3', List.length_map, Nxt, exIf, chLV']
            try rfl
          · have c3' : ¬ (t.length : Int) < 8 := by omega
            have g0 := get_def (s := t) (i := 0) (by omega)
            have g1 := get_def (s := t) (i := 1) (by omega)
            have hb1 := bAt_le t 1
            have hb0 := bAt_le t 0
            have e1 : IntKind.i64.wrap ((t.getD 1 0).toNat : Int) = ((bAt t 1 : Nat) : Int) := wrap_id (by omega) (by unfold bAt at hb1; omega)
            have e0 : IntKind.i64.wrap ((t.getD 0 0).toNat : Int) = ((bAt t 0 : Nat) : Int) := wrap_id (by omega) (by unfold bAt at hb0; omega)
            have e2 : IntKind.i64.wrap (8 * IntKind.i64.wrap (1 + ((bAt t 1 : Nat) : Int))) = ((sz6 t : Nat) : Int) := by
              rw [wrap_id (n := 1 + ((bAt t 1 : Nat) : Int)) (by omega) (by omega), wrap_id (by omega) (by omega)]; unfold sz6; omega
            by_cases c5 : t.length < sz6 t
            · have c5' : (t.length : Int) < ((sz6 t : Nat) : Int) := by omega
              have hr : chC 8 true next s = (7, [], 0, []) := by
                rw [← hr, chC, if_pos c1, if_neg c2, if_pos c5]; rfl
              rw [hr]
              simp only [go_sem, ↓reduceIte, reduceCtorEq, upd_ne, back_new (no_at), Nat.reduceAdd, Nat.reduceEqDiff, Nat.reduceMul, Nat.reduceSub, Nat.reduceLeDiff, Nat.reduceLT, Int.reduceToNat, Int.reduceLE, Int.reduceLT, Int.reduceEq, UInt8.reduceOfNat, List.getElem?_map, Int.toNat_natCast, hz, hz2, c4, c3', g1, byteLV, e1, e2, c5', List.length_map, Nxt, exIf, chLV']
              try rfl
            · have c5' : ¬ (t.length : Int) < ((sz6 t : Nat) : Int) := by omega
              have l1 : sz6 t ≤ t.length := by omega
              have l2 : 2 ≤ sz6 t := by unfold sz6; omega
              have ha := wAppend_tag (e := 2) (by' := 24) (d := 55) (t := 8) (g := 1) (n := acc.length) (sz := 2) (sl := upd noSlots 8 (.tag 1 acc.length 2)) (l := acc.map extLV) (new := [extLV (next', (t.drop 2).take (sz6 t - 2))]) upd_same (by simp) rfl (ext_flat acc) (by simp [flatLen, sumLen]) (by simp) (by simp; omega)
              have hm : acc.map extLV ++ [extLV (next', (t.drop 2).take (sz6 t - 2))] = (acc ++ [(next', (t.drop 2).take (sz6 t - 2))]).map extLV := by simp
              rw [hm, upd_upd] at ha
              simp only [go_sem, ↓reduceIte, reduceCtorEq, upd_ne, back_new (no_at), Nat.reduceAdd, Nat.reduceEqDiff, Nat.reduceMul, Nat.reduceSub, Nat.reduceLeDiff, Nat.reduceLT, Int.reduceToNat, Int.reduceLE, Int.reduceLT, Int.reduceEq, UInt8.reduceOfNat, List.getElem?_map, Int.toNat_natCast, hz, hz2, c4, c3', g0, g1, byteLV, e0, e1, e2, c5', l1, l2, ha, List.length_map, Nat.le_refl]
              refine ⟨k, by omega, acc ++ [(next', (t.drop 2).take (sz6 t - 2))], ((bAt t 0 : Nat) : Int), t.drop (sz6 t), ?_, by simp; omega, by simp; omega, ?_⟩
              · simp
              · rw [← hr, chP_step c1 c2 c5]
                congr 2
                cases acc <;> rfl
      · cases k with
        | zero =>
          have c4 : (acc.length : Int) = 8 := by omega
          have hr : chC 8 true next s = (3, [], 0, []) := by
            rw [← hr, chC, if_pos c1, if_neg c2]; rfl
          rw [hr]
          first | (exfalso; omega) | simp only [go_sem, ↓reduceIte, reduceCtorEq, upd_ne, back_new (no_at), Nat.reduceAdd, Nat.reduceEqDiff, Nat.reduceMul, Nat.reduceSub, Nat.reduceLeDiff, Nat.reduceLT, Int.reduceToNat, Int.reduceLE, Int.reduceLT, Int.reduceEq, UInt8.reduceOfNat, List.getElem?_map, Int.toNat_natCast, hz, hz2, c4, List.length_map, Nxt, exIf, chLV']
          try rfl
        | succ k =>
          have c4 : ¬ (acc.length : Int) = 8 := by omega
          by_cases c3 : t.length < 8
          · have c3' : (t.length : Int) < 8 := by omega
            have c5 : t.length < sz6 t := by unfold sz6; omega
            have hr : chC 8 true next s = (7, [], 0, []) := by
              rw [← hr, chC, if_pos c1, if_neg c2, if_pos c5]; rfl
            rw [hr]
            simp only [go_sem, ↓reduceIte, reduceCtorEq, upd_ne, back_new (no_at), Nat.reduceAdd, Nat.reduceEqDiff, Nat.reduceMul, Nat.reduceSub, Nat.reduceLeDiff, Nat.reduceLT, Int.reduceToNat, Int.reduceLE, Int.reduceLT, Int.reduceEq, UInt8.reduceOfNat, List.getElem?_map, Int.toNat_natCast, hz, hz2, c4, c3', List.length_map, Nxt, exIf, chLV']
            try rfl
          · have c3' : ¬ (t.length : Int) < 8 := by omega
            have g0 := get_def (s := t) (i := 0) (by omega)
            have g1 := get_def (s := t) (i := 1) (by omega)
            have hb1 := bAt_le t 1
            have hb0 := bAt_le t 0
            have e1 : IntKind.i64.wrap ((t.getD 1 0).toNat : Int) = ((bAt t 1 : Nat) : Int) := wrap_id (by omega) (by unfold bAt at hb1; omega)
            have e0 : IntKind.i64.wrap ((t.getD 0 0).toNat : Int) = ((bAt t 0 : Nat) : Int) := wrap_id (by omega) (by unfold bAt at hb0; omega)
            have e2 : IntKind.i64.wrap (8 * IntKind.i64.wrap (1 + ((bAt t 1 : Nat) : Int))) = ((sz6 t : Nat) : Int) := by
              rw [wrap_id (n := 1 + ((bAt t 1 : Nat) : Int)) (by omega) (by omega), wrap_id (by omega) (by omega)]; unfold sz6; omega
            by_cases c5 : t.length < sz6 t
            · have c5' : (t.length : Int) < ((sz6 t : Nat) : Int) := by omega
              have hr : chC 8 true next s = (7, [], 0, []) := by
                rw [← hr, chC, if_pos c1, if_neg c2, if_pos c5]; rfl
              rw [hr]
              simp only [go_sem, ↓reduceIte, reduceCtorEq, upd_ne, back_new (no_at), Nat.reduceAdd, Nat.reduceEqDiff, Nat.reduceMul, Nat.reduceSub, Nat.reduceLeDiff, Nat.reduceLT, Int.reduceToNat, Int.reduceLE, Int.reduceLT, Int.reduceEq, UInt8.reduceOfNat, List.getElem?_map, Int.toNat_natCast, hz, hz2, c4, c3', g1, byteLV, e1, e2, c5', List.length_map, Nxt, exIf, chLV']
              try rfl
            · have c5' : ¬ (t.length : Int) < ((sz6 t : Nat) : Int) := by omega
              have l1 : sz6 t ≤ t.length := by omega
              have l2 : 2 ≤ sz6 t := by unfold sz6; omega
              have ha := wAppend_tag (e := 2) (by' := 24) (d := 55) (t := 8) (g := 1) (n := acc.length) (sz := 2) (sl := upd noSlots 8 (.tag 1 acc.length 2)) (l := acc.map extLV) (new := [extLV (next', (t.drop 2).take (sz6 t - 2))]) upd_same (by simp) rfl (ext_flat acc) (by simp [flatLen, sumLen]) (by simp) (by simp; omega)
              have hm : acc.map extLV ++ [extLV (next', (t.drop 2).take (sz6 t - 2))] = (acc ++ [(next', (t.drop 2).take (sz6 t - 2))]).map extLV := by simp
              rw [hm, upd_upd] at ha
              simp only [go_sem, ↓reduceIte, reduceCtorEq, upd_ne, back_new (no_at), Nat.reduceAdd, Nat.reduceEqDiff, Nat.reduceMul, Nat.reduceSub, Nat.reduceLeDiff, Nat.reduceLT, Int.reduceToNat, Int.reduceLE, Int.reduceLT, Int.reduceEq, UInt8.reduceOfNat, List.getElem?_map, Int.toNat_natCast, hz, hz2, c4, c3', g0, g1, byteLV, e0, e1, e2, c5', l1, l2, ha, List.length_map, Nat.le_refl]
              refine ⟨k, by omega, acc ++ [(next', (t.drop 2).take (sz6 t - 2))], ((bAt t 0 : Nat) : Int), t.drop (sz6 t), ?_, by simp; omega, by simp; omega, ?_⟩
              · simp
              · rw [← hr, chP_step c1 c2 c5]
                congr 2
                cases acc <;> rfl
  · have hr : chC 8 true next s = (0, acc, next', t) := by
      rw [← hr]
      cases k with
      | zero => rw [chC, if_neg c1]; simp [chP]
      | succ k => rw [chC, if_neg c1]; simp [chP]
    have h1 : ¬ next' = 0 := fun h => c1 (Or.inl (Or.inl h))
    have h2 : ¬ next' = 43 := fun h => c1 (Or.inl (Or.inr h))
    have h3 : ¬ next' = 60 := fun h => c1 (Or.inr h)
    rw [hr]
    simp only [go_sem, ↓reduceIte, reduceCtorEq, upd_ne, back_new (no_at), Nat.reduceAdd, Nat.reduceEqDiff, Nat.reduceMul, Nat.reduceSub, Nat.reduceLeDiff, Nat.reduceLT, Int.reduceToNat, Int.reduceLE, Int.reduceLT, Int.reduceEq, UInt8.reduceOfNat, List.getElem?_map, Int.toNat_natCast, h1, h2, h3, Nxt, exIf, chLV']
    try rfl
end
end Go.Ev

/- Layer 4: bytes parsed. -/
namespace Go.Ev
set_option linter.unusedSimpArgs false
set_option linter.unusedVariables false
set_option maxRecDepth 4000
set_option maxHeartbeats 8000000
abbrev y16 : List UInt8 := [0, 0, 0, 0, 0, 0, 0, 0, 0, 0, 0, 0, 0, 0, 0, 0]
abbrev z6LV : LV := ip6LV 0 0 0 y16 y16 (.lst none []) false 0 0 false 0 []
def k6 (s : List UInt8) : ChR := chC 8 true ((bAt s 6 : Nat) : Int) ((s.drop 40).take (wAt s 4))
def okF6 (mo : Bool) (at' : Nat) (da : List UInt8) : Prop := (mo = true → da.length ≠ 0 ∧ da.length % 8 = 0) ∧ at' + da.length ≤ 65535
instance (mo : Bool) (at' : Nat) (da : List UInt8) : Decidable (okF6 mo at' da) := by unfold okF6; infer_instance
def fa6 (r : List UInt8) : Nat := wAt r 2 / 8 * 8
def fm6 (r : List UInt8) : Bool := decide (wAt r 2 % 2 = 1)
def fi6 (r : List UInt8) : Nat := numN ((r.drop 4).take 4)
def kF6 (r : List UInt8) : Int := if r.length < 8 then 7 else if okF6 (fm6 r) (fa6 r) (r.drop 8) then 0 else 8
def kR6 (k : ChR) : Int := if k.1 ≠ 0 then k.1 else if k.2.2.1 ≠ 44 then 0 else kF6 k.2.2.2
def pK6 (s : List UInt8) : Int :=
  if s.length < 40 then 7 else if bAt s 0 / 16 ≠ 6 then 8 else if s.length < 40 + wAt s 4 then 7 else kR6 (k6 s)
def pcl6 (s : List UInt8) : Int := ((numN (s.take 4) / 1048576 % 256 : Nat) : Int)
def pfl6 (s : List UInt8) : Int := ((numN (s.take 4) % 1048576 : Nat) : Int)
def pfr6 (s : List UInt8) : List UInt8 := (s.drop 8).take 16
def pto6 (s : List UInt8) : List UInt8 := (s.drop 24).take 16
def mk6 (s : List UInt8) (k : ChR) : LV :=
  if k.2.2.1 = 44 then ip6LV (pcl6 s) (pfl6 s) (bAt s 7 : Nat) (pfr6 s) (pto6 s) (extsLV k.2.1) true (fi6 k.2.2.2 : Nat) (fa6 k.2.2.2 : Nat) (fm6 k.2.2.2) (bAt k.2.2.2 0 : Nat) (k.2.2.2.drop 8)
  else ip6LV (pcl6 s) (pfl6 s) (bAt s 7 : Nat) (pfr6 s) (pto6 s) (extsLV k.2.1) false 0 0 false k.2.2.1 k.2.2.2
def pLV6 (s : List UInt8) : LV := if pK6 s = 0 then mk6 s (k6 s) else z6LV

theorem wc3 {sl : Slots} {t g : Nat} {cl fl ho : Int} {fr to : List UInt8} {ex : LV} {fg : Bool} {id at' : Int} {mo : Bool} {pt : Int} {da s : List UInt8} (hf : fr.length = 16) (hs : 16 ≤ s.length) :
    wCopy (upd sl t (.obj g (ip6LV cl fl ho fr to ex fg id at' mo pt da))) (.arr t g [3] 3 0 16) (.str s) = some (.int .i64 16, upd (upd sl t (.obj g (ip6LV cl fl ho fr to ex fg id at' mo pt da))) t (.obj g (ip6LV cl fl ho (s.take 16) to ex fg id at' mo pt da))) := by
  have h1 : min s.length 16 = 16 := by omega
  have h2 : fr.drop 16 = [] := List.drop_eq_nil_of_le (by omega)
  have hg : getPath (ip6LV cl fl ho fr to ex fg id at' mo pt da) [3] = some (.bytes fr, 3) := by simp only [go_sem, ↓reduceIte, reduceCtorEq, upd_ne, back_new (no_at), Nat.reduceAdd, Nat.reduceEqDiff, Nat.reduceMul, Nat.reduceSub, Nat.reduceLeDiff, Nat.reduceLT, Int.reduceToNat, Int.reduceLE, Int.reduceLT, Int.reduceEq, UInt8.reduceOfNat]
  have hp : setPath (ip6LV cl fl ho fr to ex fg id at' mo pt da) [3] (.bytes (s.take 16)) = some (ip6LV cl fl ho (s.take 16) to ex fg id at' mo pt da) := by simp only [go_sem, ↓reduceIte, reduceCtorEq, upd_ne, back_new (no_at), Nat.reduceAdd, Nat.reduceEqDiff, Nat.reduceMul, Nat.reduceSub, Nat.reduceLeDiff, Nat.reduceLT, Int.reduceToNat, Int.reduceLE, Int.reduceLT, Int.reduceEq, UInt8.reduceOfNat]
  unfold wCopy
  simp only [upd_same, if_true, hg]
  rw [if_pos ⟨trivial, by omega⟩]
  simp only [h1, Option.bind_some, List.take_zero, List.nil_append, Nat.zero_add, h2, List.append_nil, hp, Option.map_some]
  rfl
theorem wc4 {sl : Slots} {t g : Nat} {cl fl ho : Int} {fr to : List UInt8} {ex : LV} {fg : Bool} {id at' : Int} {mo : Bool} {pt : Int} {da s : List UInt8} (hf : fr.length = 16) (ht : to.length = 16) (hs : 16 ≤ s.length) :
    wCopy (upd sl t (.obj g (ip6LV cl fl ho fr to ex fg id at' mo pt da))) (.arr t g [4] 19 0 16) (.str s) = some (.int .i64 16, upd (upd sl t (.obj g (ip6LV cl fl ho fr to ex fg id at' mo pt da))) t (.obj g (ip6LV cl fl ho fr (s.take 16) ex fg id at' mo pt da))) := by
  have h1 : min s.length 16 = 16 := by omega
  have h2 : to.drop 16 = [] := List.drop_eq_nil_of_le (by omega)
  have hg : getPath (ip6LV cl fl ho fr to ex fg id at' mo pt da) [4] = some (.bytes to, 19) := by simp only [go_sem, ↓reduceIte, reduceCtorEq, upd_ne, back_new (no_at), Nat.reduceAdd, Nat.reduceEqDiff, Nat.reduceMul, Nat.reduceSub, Nat.reduceLeDiff, Nat.reduceLT, Int.reduceToNat, Int.reduceLE, Int.reduceLT, Int.reduceEq, UInt8.reduceOfNat, hf]
  have hp : setPath (ip6LV cl fl ho fr to ex fg id at' mo pt da) [4] (.bytes (s.take 16)) = some (ip6LV cl fl ho fr (s.take 16) ex fg id at' mo pt da) := by simp only [go_sem, ↓reduceIte, reduceCtorEq, upd_ne, back_new (no_at), Nat.reduceAdd, Nat.reduceEqDiff, Nat.reduceMul, Nat.reduceSub, Nat.reduceLeDiff, Nat.reduceLT, Int.reduceToNat, Int.reduceLE, Int.reduceLT, Int.reduceEq, UInt8.reduceOfNat]
  unfold wCopy
  simp only [upd_same, if_true, hg]
  rw [if_pos ⟨trivial, by omega⟩]
  simp only [h1, Option.bind_some, List.take_zero, List.nil_append, Nat.zero_add, h2, List.append_nil, hp, Option.map_some]
  rfl
theorem andNot7 (x : Nat) (h : x ≤ 65535) : bitsOf .andNot .i64 (x : Int) 7 = ((x / 8 * 8 : Nat) : Int) := by
  rw [show (7 : Int) = ((7 : Nat) : Int) from rfl]
  unfold bitsOf
  rw [ofInt_nat, ofInt_nat]
  simp only [BitVec.toNat_and, BitVec.toNat_not, BitVec.toNat_ofNat]
  have e : x % 2 ^ IntKind.i64.bits &&& (2 ^ IntKind.i64.bits - 1 - 7 % 2 ^ IntKind.i64.bits) = x / 8 * 8 := by
    rw [show IntKind.i64.bits = 64 from rfl, Nat.mod_eq_of_lt (by omega), show 2 ^ 64 - 1 - 7 % 2 ^ 64 = (2 ^ 61 - 1) * 2 ^ 3 by decide]
    apply Nat.eq_of_testBit_eq
    intro i
    rw [Nat.testBit_and, Nat.testBit_mul_two_pow, Nat.testBit_two_pow_sub_one, show x / 8 * 8 = (x / 2 ^ 3) * 2 ^ 3 from rfl, Nat.testBit_mul_two_pow, Nat.testBit_div_two_pow]
    by_cases h3 : 3 ≤ i
    · by_cases h4 : i - 3 < 61
      · simp [h3, h4, show i - 3 + 3 = i by omega]
      · have h5 : x.testBit i = false := Nat.testBit_lt_two_pow (by have : 2 ^ 64 ≤ 2 ^ i := Nat.pow_le_pow_right (by decide) (by omega)
                                                                    omega)
        simp [h3, h4, h5, show i - 3 + 3 = i by omega]
    · simp [h3]
  rw [e]
  exact wrap_id (by omega) (by omega)
theorem wrap_u32 {x : Nat} (h : x < 4294967296) : IntKind.u32.wrap (x : Int) = (x : Int) := by
  simp only [IntKind.wrap, IntKind.bits, IntKind.signed]
  simp
  omega
section
variable {S : Sys} (hS : Has S) (n : Nat)
include hS
theorem ev_pieced {cl fl ho : Int} {fr to : List UInt8} {ex : List LV} {fg : Bool} {id at' : Int} {mo : Bool} {pt : Int} {da : List UInt8} (hfr : fr.length = 16) (hto : to.length = 16) :
    S.ev (n + 1) id_ip6_pieced [ip6LV cl fl ho fr to (.lst none ex) fg id at' mo pt da] none = some (.bool (decide (mo = true → da.length ≠ 0 ∧ da.length % 8 = 0)), none) := by
  rw [Sys.step hS.h_ip6_pieced, F_ip6_pieced_eq]
  unfold F_ip6_pieced
  (try simp only [guard_merge, or_merge, and_merge, or_pick, and_pick, guard_or, guard_and]); simp only [to_ob]
  have e2 : Int.tmod (da.length : Int) 8 = ((da.length % 8 : Nat) : Int) := rfl
  cases mo
  · simp only [go_sem, ↓reduceIte, reduceCtorEq, upd_ne, back_new (no_at), Nat.reduceAdd, Nat.reduceEqDiff, Nat.reduceMul, Nat.reduceSub, Nat.reduceLeDiff, Nat.reduceLT, Int.reduceToNat, Int.reduceLE, Int.reduceLT, Int.reduceEq, UInt8.reduceOfNat, hfr, hto, false_implies]
  · by_cases k3 : da = []
    · subst k3
      simp only [go_sem, ↓reduceIte, reduceCtorEq, upd_ne, back_new (no_at), Nat.reduceAdd, Nat.reduceEqDiff, Nat.reduceMul, Nat.reduceSub, Nat.reduceLeDiff, Nat.reduceLT, Int.reduceToNat, Int.reduceLE, Int.reduceLT, Int.reduceEq, UInt8.reduceOfNat, hfr, hto, true_implies]
    · have k3' : ¬ da.length = 0 := fun h => k3 (List.length_eq_zero_iff.1 h)
      by_cases k4 : da.length % 8 = 0
      · have k4' : ((da.length % 8 : Nat) : Int) = 0 := by omega
        simp only [go_sem, ↓reduceIte, reduceCtorEq, upd_ne, back_new (no_at), Nat.reduceAdd, Nat.reduceEqDiff, Nat.reduceMul, Nat.reduceSub, Nat.reduceLeDiff, Nat.reduceLT, Int.reduceToNat, Int.reduceLE, Int.reduceLT, Int.reduceEq, UInt8.reduceOfNat, hfr, hto, k3, k3', k4, k4', e2, true_implies]
      · have k4' : ¬ ((da.length % 8 : Nat) : Int) = 0 := by omega
        simp only [go_sem, ↓reduceIte, reduceCtorEq, upd_ne, back_new (no_at), Nat.reduceAdd, Nat.reduceEqDiff, Nat.reduceMul, Nat.reduceSub, Nat.reduceLeDiff, Nat.reduceLT, Int.reduceToNat, Int.reduceLE, Int.reduceLT, Int.reduceEq, UInt8.reduceOfNat, hfr, hto, k3, k3', k4, k4', e2, true_implies]
theorem ev_parse6 (s : List UInt8) (hs : s.length ≤ 140737488351232) : S.ev (n + 4) id_ip6_Parse [.str s] none = some (.tup [pLV6 s, fE (pK6 s)], none) := by
  rw [Sys.step hS.h_ip6_Parse, F_ip6_Parse_eq]
  unfold F_ip6_Parse
  have hfa := ev_fault6 hS (n + 2)
  (try simp only [guard_merge, or_merge, and_merge, or_pick, and_pick, guard_or, guard_and]); simp only [to_ob]
  unfold pLV6 pK6
  by_cases c1 : s.length < 40
  · have c1' : (s.length : Int) < 40 := by omega
    simp only [go_sem, ↓reduceIte, reduceCtorEq, upd_ne, back_new (no_at), Nat.reduceAdd, Nat.reduceEqDiff, Nat.reduceMul, Nat.reduceSub, Nat.reduceLeDiff, Nat.reduceLT, Int.reduceToNat, Int.reduceLE, Int.reduceLT, Int.reduceEq, UInt8.reduceOfNat, c1, c1', hfa, fE]
  · have c1' : ¬ (s.length : Int) < 40 := by omega
    have g0 := get_def (s := s) (i := 0) (by omega)
    have hb0 := bAt_le s 0
    have e4 : Int.fdiv ((s.getD 0 0).toNat : Int) (2 ^ min 4 8) = ((bAt s 0 / 16 : Nat) : Int) := by
      rw [show min 4 8 = 4 from rfl, Int.fdiv_eq_ediv_of_nonneg _ (by decide)]; rfl
    by_cases c2 : bAt s 0 / 16 ≠ 6
    · have c2' : ¬ ((bAt s 0 / 16 : Nat) : Int) = 6 := by omega
      simp only [go_sem, ↓reduceIte, reduceCtorEq, upd_ne, back_new (no_at), Nat.reduceAdd, Nat.reduceEqDiff, Nat.reduceMul, Nat.reduceSub, Nat.reduceLeDiff, Nat.reduceLT, Int.reduceToNat, Int.reduceLE, Int.reduceLT, Int.reduceEq, UInt8.reduceOfNat, List.getElem?_map, Int.toNat_natCast, c1, c1', c2, c2', hfa, fE, g0, byteLV, e4]
    · have c2' : ((bAt s 0 / 16 : Nat) : Int) = 6 := by omega
      have g4 := get_def (s := s) (i := 4) (by omega)
      have g5 := get_def (s := s) (i := 5) (by omega)
      have g6 := get_def (s := s) (i := 6) (by omega)
      have g7 := get_def (s := s) (i := 7) (by omega)
      have hb4 := (s.getD 4 0).toNat_lt
      have hb5 := (s.getD 5 0).toNat_lt
      have hb6 := bAt_le s 6
      have hb7 := bAt_le s 7
      have hw4 := wAt_le s 4
      have q1 : IntKind.i64.wrap ((s.getD 4 0).toNat : Int) = ((s.getD 4 0).toNat : Int) := wrap_id (by omega) (by omega)
      have q2 : IntKind.i64.wrap ((s.getD 5 0).toNat : Int) = ((s.getD 5 0).toNat : Int) := wrap_id (by omega) (by omega)
      have q3 : IntKind.i64.wrap (((s.getD 4 0).toNat : Int) * 2 ^ min 8 64) = (((s.getD 4 0).toNat * 256 : Nat) : Int) := by
        rw [show min 8 64 = 8 from rfl, wrap_id (by omega) (by omega)]; omega
      have q4 : bitsOf .or .i64 (((s.getD 4 0).toNat * 256 : Nat) : Int) ((s.getD 5 0).toNat : Int) = ((wAt s 4 : Nat) : Int) := w16_or _ _
      have q5 : IntKind.i64.wrap (40 + ((wAt s 4 : Nat) : Int)) = ((40 + wAt s 4 : Nat) : Int) := by rw [wrap_id (by omega) (by omega)]; omega
      have q6 : IntKind.i64.wrap ((s.getD 6 0).toNat : Int) = ((bAt s 6 : Nat) : Int) := wrap_id (by omega) (by unfold bAt at hb6; omega)
      have q7 : IntKind.i64.wrap ((s.getD 7 0).toNat : Int) = ((bAt s 7 : Nat) : Int) := wrap_id (by omega) (by unfold bAt at hb7; omega)
      by_cases c3 : s.length < 40 + wAt s 4
      · have c3' : (s.length : Int) < ((40 + wAt s 4 : Nat) : Int) := by omega
        simp only [go_sem, ↓reduceIte, reduceCtorEq, upd_ne, back_new (no_at), Nat.reduceAdd, Nat.reduceEqDiff, Nat.reduceMul, Nat.reduceSub, Nat.reduceLeDiff, Nat.reduceLT, Int.reduceToNat, Int.reduceLE, Int.reduceLT, Int.reduceEq, UInt8.reduceOfNat, List.getElem?_map, Int.toNat_natCast, c1, c1', c2, c2', c3, c3', hfa, fE, g0, g4, g5, byteLV, e4, q1, q2, q3, q4, q5]
      · have c3' : ¬ (s.length : Int) < ((40 + wAt s 4 : Nat) : Int) := by omega
        have hN := ev_New hS (n + 2) s
        have hU := ev_U32 hS n s 0 (by omega) hs
        simp only [Nat.zero_add, List.drop_zero] at hU
        have hx := num4_lt s
        have d1 : Int.fdiv ((numN (s.take 4) : Nat) : Int) (2 ^ min 20 64) = ((numN (s.take 4) / 1048576 : Nat) : Int) := by
          rw [show min 20 64 = 20 from rfl, Int.fdiv_eq_ediv_of_nonneg _ (by decide)]; rfl
        have d2 : bitsOf .and .i64 ((numN (s.take 4) / 1048576 : Nat) : Int) 255 = pcl6 s := by
          rw [show (255 : Int) = ((2 ^ 8 - 1 : Nat) : Int) from rfl, bits_mask 8 (by omega) (show ((numN (s.take 4) / 1048576 : Nat) : Int) ≤ 9223372036854775807 by omega) (by decide)]
          rfl
        have d3 : bitsOf .and .i64 ((numN (s.take 4) : Nat) : Int) 1048575 = pfl6 s := by
          rw [show (1048575 : Int) = ((2 ^ 20 - 1 : Nat) : Int) from rfl, bits_mask 20 (by omega) (show ((numN (s.take 4) : Nat) : Int) ≤ 9223372036854775807 by omega) (by decide)]
          rfl
        have k1 : ∀ sl : Slots, wCopy (upd sl 8 (.obj 1 (ip6LV (pcl6 s) (pfl6 s) (bAt s 7 : Nat) y16 y16 (.lst none []) false 0 0 false 0 []))) (.arr 8 1 [3] 3 0 16) (.str (s.drop 8)) = _ := fun sl => wc3 rfl (by rw [List.length_drop]; omega)
        have hlf : (pfr6 s).length = 16 := by unfold pfr6; simp; omega
        have hlt : (pto6 s).length = 16 := by unfold pto6; simp; omega
        have k2 : ∀ sl : Slots, wCopy (upd sl 8 (.obj 1 (ip6LV (pcl6 s) (pfl6 s) (bAt s 7 : Nat) (pfr6 s) y16 (.lst none []) false 0 0 false 0 []))) (.arr 8 1 [4] 19 0 16) (.str (s.drop 24)) = _ := fun sl => wc4 hlf rfl (by rw [List.length_drop]; omega)
        have v5 : (s.drop 8).take 16 = pfr6 s := rfl
        have v6 : (s.drop 24).take 16 = pto6 s := rfl
        have l8 : 8 ≤ s.length := by omega
        have l24 : 24 ≤ s.length := by omega
        have l40 : 40 ≤ 40 + wAt s 4 := by omega
        have l41 : 40 + wAt s 4 ≤ s.length := by omega
        have l42 : 40 + wAt s 4 - 40 = wAt s 4 := by omega
        have t8 : (s.drop 8).take (s.length - 8) = s.drop 8 := List.take_of_length_le (by simp)
        have t24 : (s.drop 24).take (s.length - 24) = s.drop 24 := List.take_of_length_le (by simp)
        have hC : S.ev (n + 3) id_ip6_Chain [.int .i64 ((bAt s 6 : Nat) : Int), .str ((s.drop 40).take (wAt s 4))] none = some (chLV (k6 s), none) := ev_chain6 hS (n + 1) _ _ (by rw [List.length_take]; omega)
        have hkl : (k6 s).1 = 0 → (k6 s).2.2.2.length ≤ 65535 := by
          intro _
          have : ∀ (k : Nat) (f : Bool) (nx : Int) (u : List UInt8), (chC k f nx u).2.2.2.length ≤ u.length := by
            intro k
            induction k with
            | zero => intro f nx u; unfold chC; split <;> (try split) <;> simp
            | succ k ih =>
              intro f nx u
              unfold chC
              split
              · split
                · simp
                · split
                  · simp
                  · have := ih false ((bAt u 0 : Nat) : Int) (u.drop (sz6 u))
                    rw [List.length_drop] at this
                    simp only
                    split <;> (try simp only) <;> omega
              · simp
          refine Nat.le_trans (this _ _ _ _) ?_
          rw [List.length_take]; omega
        unfold chLV at hC
        unfold mk6 kR6
        rcases hks : k6 s with ⟨kc, kl, kp, kr⟩
        rw [hks] at hC hkl
        try dsimp only at hC
        try dsimp only at hkl
        try dsimp only
        by_cases c4 : kc = 0
        · subst c4
          have hkl := hkl rfl
          rw [show fE 0 = .nili from rfl] at hC
          by_cases c5 : kp = 44
          · subst c5
            by_cases c6 : kr.length < 8
            · have c6' : (kr.length : Int) < 8 := by omega
              simp only [go_sem, ↓reduceIte, reduceCtorEq, upd_ne, back_new (no_at), Nat.reduceAdd, Nat.reduceEqDiff, Nat.reduceMul, Nat.reduceSub, Nat.reduceLeDiff, Nat.reduceLT, Int.reduceToNat, Int.reduceLE, Int.reduceLT, Int.reduceEq, UInt8.reduceOfNat, List.getElem?_map, Int.toNat_natCast, Nat.sub_zero, c1, c1', c2, c2', c3, c3', c6, c6', kF6, hfa, hN, hU, hC, fE, g0, g4, g5, g6, g7, byteLV, e4, q1, q2, q3, q4, q5, q6, q7, d1, d2, d3, k1, k2, v5, v6, hlf, hlt, l8, l24, l40, l41, l42, t8, t24, Nat.le_refl]
            · have c6' : ¬ (kr.length : Int) < 8 := by omega
              have h0 := get_def (s := kr) (i := 0) (by omega)
              have h2 := get_def (s := kr) (i := 2) (by omega)
              have h3 := get_def (s := kr) (i := 3) (by omega)
              have i0 := bAt_le kr 0
              have i2 := (kr.getD 2 0).toNat_lt
              have i3 := (kr.getD 3 0).toNat_lt
              have hw2 := wAt_le kr 2
              have r1 : IntKind.i64.wrap ((kr.getD 2 0).toNat : Int) = ((kr.getD 2 0).toNat : Int) := wrap_id (by omega) (by omega)
              have r2 : IntKind.i64.wrap ((kr.getD 3 0).toNat : Int) = ((kr.getD 3 0).toNat : Int) := wrap_id (by omega) (by omega)
              have r3 : IntKind.i64.wrap (((kr.getD 2 0).toNat : Int) * 2 ^ min 8 64) = (((kr.getD 2 0).toNat * 256 : Nat) : Int) := by
                rw [show min 8 64 = 8 from rfl, wrap_id (by omega) (by omega)]; omega
              have r4 : bitsOf .or .i64 (((kr.getD 2 0).toNat * 256 : Nat) : Int) ((kr.getD 3 0).toNat : Int) = ((wAt kr 2 : Nat) : Int) := w16_or _ _
              have r5 : IntKind.i64.wrap ((kr.getD 0 0).toNat : Int) = ((bAt kr 0 : Nat) : Int) := wrap_id (by omega) (by unfold bAt at i0; omega)
              have r6 : bitsOf .andNot .i64 ((wAt kr 2 : Nat) : Int) 7 = ((fa6 kr : Nat) : Int) := andNot7 _ hw2
              have r7 : bitsOf .and .i64 ((wAt kr 2 : Nat) : Int) 1 = ((wAt kr 2 % 2 : Nat) : Int) := by
                rw [show (1 : Int) = ((2 ^ 1 - 1 : Nat) : Int) from rfl, bits_mask 1 (by omega) (show ((wAt kr 2 : Nat) : Int) ≤ 9223372036854775807 by omega) (by decide)]
                rfl
              have r8 : (!decide (((wAt kr 2 % 2 : Nat) : Int) = 0)) = fm6 kr := by
                unfold fm6
                rw [← decide_not]
                exact decide_eq_decide.2 (by omega)
              have r8' : (decide (¬ ((wAt kr 2 % 2 : Nat) : Int) = 0)) = fm6 kr := by rw [← r8]; simp
              have hN2 := ev_New hS (n + 2) (kr.drop 4)
              have hU2 := ev_U32 hS n (kr.drop 4) 0 (by rw [List.length_drop]; omega) (by rw [List.length_drop]; omega)
              simp only [Nat.zero_add, List.drop_zero] at hU2
              have hU2 : S.ev (n + 3) id_num_Reader_U32 [.ptr 0 0 [] 0] (some (nrLV (kr.drop 4) 0)) = some (.tup [.int .i64 ((fi6 kr : Nat) : Int), .nili], some (nrLV (kr.drop 4) 4)) := hU2
              have hfi : fi6 kr < 4294967296 := num4_lt (kr.drop 4)
              have r9 : IntKind.u32.wrap ((fi6 kr : Nat) : Int) = ((fi6 kr : Nat) : Int) := wrap_u32 hfi
              have m4 : 4 ≤ kr.length := by omega
              have m8 : 8 ≤ kr.length := by omega
              have u4 : (kr.drop 4).take (kr.length - 4) = kr.drop 4 := List.take_of_length_le (by simp)
              have u8' : (kr.drop 8).take (kr.length - 8) = kr.drop 8 := List.take_of_length_le (by simp)
              have hP := ev_pieced hS (n + 2) (cl := pcl6 s) (fl := pfl6 s) (ho := (bAt s 7 : Nat)) (ex := kl.map extLV) (fg := true) (id := (fi6 kr : Nat)) (at' := (fa6 kr : Nat)) (mo := fm6 kr) (pt := (bAt kr 0 : Nat)) (da := kr.drop 8) hlf hlt
              have hfa6 : fa6 kr ≤ 65535 := by unfold fa6; omega
              have r10 : IntKind.i64.wrap (65535 - ((fa6 kr : Nat) : Int)) = ((65535 - fa6 kr : Nat) : Int) := by rw [wrap_id (by omega) (by omega)]; omega
              by_cases c7 : (fm6 kr = true → (kr.drop 8).length ≠ 0 ∧ (kr.drop 8).length % 8 = 0)
              · rw [decide_eq_true c7] at hP
                by_cases c8 : fa6 kr + (kr.drop 8).length ≤ 65535
                · have c8' : ¬ ((65535 - fa6 kr : Nat) : Int) < (((kr.drop 8).length : Nat) : Int) := by omega
                  have c9 : okF6 (fm6 kr) (fa6 kr) (kr.drop 8) := ⟨c7, c8⟩
                  simp only [go_sem, ↓reduceIte, reduceCtorEq, upd_ne, back_new (no_at), Nat.reduceAdd, Nat.reduceEqDiff, Nat.reduceMul, Nat.reduceSub, Nat.reduceLeDiff, Nat.reduceLT, Int.reduceToNat, Int.reduceLE, Int.reduceLT, Int.reduceEq, UInt8.reduceOfNat, List.getElem?_map, Int.toNat_natCast, Nat.sub_zero, c1, c1', c2, c2', c3, c3', c6, c6', c8', c9, kF6, hfa, hN, hU, hN2, hU2, hC, hP, fE, g0, g4, g5, g6, g7, h0, h2, h3, byteLV, e4, q1, q2, q3, q4, q5, q6, q7, d1, d2, d3, k1, k2, v5, v6, hlf, hlt, l8, l24, l40, l41, l42, t8, t24, r1, r2, r3, r4, r5, r6, r7, r8, r8', r9, r10, m4, m8, u4, u8', Nat.le_refl]
                · have c8' : ((65535 - fa6 kr : Nat) : Int) < (((kr.drop 8).length : Nat) : Int) := by omega
                  have c9 : ¬ okF6 (fm6 kr) (fa6 kr) (kr.drop 8) := fun h => c8 h.2
                  simp only [go_sem, ↓reduceIte, reduceCtorEq, upd_ne, back_new (no_at), Nat.reduceAdd, Nat.reduceEqDiff, Nat.reduceMul, Nat.reduceSub, Nat.reduceLeDiff, Nat.reduceLT, Int.reduceToNat, Int.reduceLE, Int.reduceLT, Int.reduceEq, UInt8.reduceOfNat, List.getElem?_map, Int.toNat_natCast, Nat.sub_zero, c1, c1', c2, c2', c3, c3', c6, c6', c8', c9, kF6, hfa, hN, hU, hN2, hU2, hC, hP, fE, g0, g4, g5, g6, g7, h0, h2, h3, byteLV, e4, q1, q2, q3, q4, q5, q6, q7, d1, d2, d3, k1, k2, v5, v6, hlf, hlt, l8, l24, l40, l41, l42, t8, t24, r1, r2, r3, r4, r5, r6, r7, r8, r8', r9, r10, m4, m8, u4, u8', Nat.le_refl]
              · rw [decide_eq_false c7] at hP
                have c9 : ¬ okF6 (fm6 kr) (fa6 kr) (kr.drop 8) := fun h => c7 h.1
                simp only [go_sem, ↓reduceIte, reduceCtorEq, upd_ne, back_new (no_at), Nat.reduceAdd, Nat.reduceEqDiff, Nat.reduceMul, Nat.reduceSub, Nat.reduceLeDiff, Nat.reduceLT, Int.reduceToNat, Int.reduceLE, Int.reduceLT, Int.reduceEq, UInt8.reduceOfNat, List.getElem?_map, Int.toNat_natCast, Nat.sub_zero, c1, c1', c2, c2', c3, c3', c6, c6', c9, kF6, hfa, hN, hU, hN2, hU2, hC, hP, fE, g0, g4, g5, g6, g7, h0, h2, h3, byteLV, e4, q1, q2, q3, q4, q5, q6, q7, d1, d2, d3, k1, k2, v5, v6, hlf, hlt, l8, l24, l40, l41, l42, t8, t24, r1, r2, r3, r4, r5, r6, r7, r8, r8', r9, r10, m4, m8, u4, u8', Nat.le_refl]
          · simp only [go_sem, ↓reduceIte, reduceCtorEq, upd_ne, back_new (no_at), Nat.reduceAdd, Nat.reduceEqDiff, Nat.reduceMul, Nat.reduceSub, Nat.reduceLeDiff, Nat.reduceLT, Int.reduceToNat, Int.reduceLE, Int.reduceLT, Int.reduceEq, UInt8.reduceOfNat, List.getElem?_map, Int.toNat_natCast, Nat.sub_zero, c1, c1', c2, c2', c3, c3', c5, hfa, hN, hU, hC, fE, g0, g4, g5, g6, g7, byteLV, e4, q1, q2, q3, q4, q5, q6, q7, d1, d2, d3, k1, k2, v5, v6, hlf, hlt, l8, l24, l40, l41, l42, t8, t24, Nat.le_refl]
        · simp only [fE, if_neg c4] at hC
          simp only [go_sem, ↓reduceIte, reduceCtorEq, upd_ne, back_new (no_at), Nat.reduceAdd, Nat.reduceEqDiff, Nat.reduceMul, Nat.reduceSub, Nat.reduceLeDiff, Nat.reduceLT, Int.reduceToNat, Int.reduceLE, Int.reduceLT, Int.reduceEq, UInt8.reduceOfNat, List.getElem?_map, Int.toNat_natCast, Nat.sub_zero, c1, c1', c2, c2', c3, c3', c4, hfa, hN, hU, hC, fE, g0, g4, g5, g6, g7, byteLV, e4, q1, q2, q3, q4, q5, q6, q7, d1, d2, d3, k1, k2, v5, v6, hlf, hlt, l8, l24, l40, l41, l42, t8, t24, Nat.le_refl]
end
end Go.Ev

/- Layer 4: why a packet has no bytes. -/
namespace Go.Ev
set_option linter.unusedSimpArgs false
set_option linter.unusedVariables false
set_option maxRecDepth 4000
set_option maxHeartbeats 8000000
def kB (ex : List (Int × List UInt8)) : Bool := ex.all fun e => decide (isE e.1)
abbrev fE1 (f : Bool) (e : Int × List UInt8) : Prop := e.2.length % 8 = 6 ∧ e.2.length ≤ 2046 ∧ (e.1 = 0 → f = true)
def fB : Bool → List (Int × List UInt8) → Bool
  | _, [] => true
  | f, e :: l => decide (fE1 f e) && fB false l
def szE : List (Int × List UInt8) → Nat
  | [] => 0
  | e :: l => e.2.length + 2 + szE l
abbrev rg6 (cl fl ho at' pt : Int) : Prop := (0 ≤ cl ∧ cl ≤ 255) ∧ (0 ≤ fl ∧ fl ≤ 1048575) ∧ (0 ≤ ho ∧ ho ≤ 255) ∧ (0 ≤ pt ∧ pt ≤ 255) ∧ (0 ≤ at' ∧ at' ≤ 65528) ∧ Int.tmod at' 8 = 0
abbrev kd6 (ex : List (Int × List UInt8)) (fg : Bool) (pt : Int) : Prop := kB ex = true ∧ (fg = false → ¬ isE pt ∧ pt ≠ 44)
abbrev pc6 (mo : Bool) (da : List UInt8) : Prop := mo = true → da.length ≠ 0 ∧ da.length % 8 = 0
abbrev fm6' (ex : List (Int × List UInt8)) (fg : Bool) (id at' : Int) (mo : Bool) (da : List UInt8) : Prop :=
  fB true ex = true ∧ (if fg = true then pc6 mo da else id = 0 ∧ at' = 0 ∧ mo = false)
def bh6 (ex : List (Int × List UInt8)) (fg : Bool) (da : List UInt8) : Nat := szE ex + (if fg = true then 8 else 0) + da.length
def why6 (cl fl ho : Int) (ex : List (Int × List UInt8)) (fg : Bool) (id at' : Int) (mo : Bool) (pt : Int) (da : List UInt8) : Int :=
  if rg6 cl fl ho at' pt then
    (if kd6 ex fg pt then (if fm6' ex fg id at' mo da then (if ex.length ≤ 8 ∧ at' + da.length ≤ 65535 ∧ bh6 ex fg da ≤ 65535 then 0 else 3) else 8) else 10) else 13
structure SmE (ex : List (Int × List UInt8)) : Prop where
  n : ex.length ≤ 20
  b : ∀ e ∈ ex, e.2.length ≤ 70000
theorem szE_app : ∀ (a b : List (Int × List UInt8)), szE (a ++ b) = szE a + szE b
  | [], b => by simp [szE]
  | e :: a, b => by simp only [List.cons_append, szE, szE_app a b]; omega
theorem szE_le : ∀ (ex : List (Int × List UInt8)), (∀ e ∈ ex, e.2.length ≤ 70000) → szE ex ≤ 70002 * ex.length
  | [], _ => by simp [szE]
  | e :: l, h => by
    have h1 := h e (by simp)
    have h2 := szE_le l fun x hx => h x (by simp [hx])
    simp only [szE, List.length_cons]
    omega
theorem drop_ex {ex : List (Int × List UInt8)} {i : Nat} {e : Int × List UInt8} (h : ex[i]? = some e) : ex.drop i = e :: ex.drop (i + 1) := by
  obtain ⟨hi, rfl⟩ := List.getElem?_eq_some_iff.1 h
  exact List.drop_eq_getElem_cons hi
section
variable {S : Sys} (hS : Has S) (n : Nat)
variable {cl fl ho : Int} {fr to : List UInt8} {ex : List (Int × List UInt8)} {fg : Bool} {id at' : Int} {mo : Bool} {pt : Int} {da : List UInt8}
include hS
theorem ev_within6 (x m : Int) : S.ev (n + 1) id_ip6_within [.int .i64 x, .int .i64 m] none = some (.bool (decide (0 ≤ x ∧ x ≤ m)), none) := by
  rw [Sys.step hS.h_ip6_within, F_ip6_within_eq]
  unfold F_ip6_within
  (try simp only [guard_merge, or_merge, and_merge, or_pick, and_pick, guard_or, guard_and]); simp only [to_ob]
  by_cases h1 : 0 ≤ x <;> by_cases h2 : x ≤ m <;> simp only [go_sem, ↓reduceIte, reduceCtorEq, upd_ne, back_new (no_at), Nat.reduceAdd, Nat.reduceEqDiff, Nat.reduceMul, Nat.reduceSub, Nat.reduceLeDiff, Nat.reduceLT, Int.reduceToNat, Int.reduceLE, Int.reduceLT, Int.reduceEq, UInt8.reduceOfNat, h1, h2]
theorem ev_kinds (hfr : fr.length = 16) (hto : to.length = 16) (hl : ex.length ≤ 140737488351232) :
    S.ev (n + 2) id_ip6_kinds [ip6LV cl fl ho fr to (extsLV ex) fg id at' mo pt da] none = some (.bool (decide (kd6 ex fg pt)), none) := by
  rw [Sys.step hS.h_ip6_kinds, F_ip6_kinds_eq]
  unfold F_ip6_kinds
  have hx := ev_extends hS n
  (try simp only [guard_merge, or_merge, and_merge, or_pick, and_pick, guard_or, guard_and]); simp only [to_ob]
  simp only [go_sem, ↓reduceIte, reduceCtorEq, upd_ne, back_new (no_at), Nat.reduceAdd, Nat.reduceEqDiff, Nat.reduceMul, Nat.reduceSub, Nat.reduceLeDiff, Nat.reduceLT, Int.reduceToNat, Int.reduceLE, Int.reduceLT, Int.reduceEq, UInt8.reduceOfNat, hfr, hto, List.length_map]
  refine while_rule (fun k q => ∃ i : Nat, q = ([.bool false, .int .i64 (i : Int)], noSlots) ∧ i + k = ex.length ∧ kB (ex.drop i) = kB ex) ex.length ⟨0, rfl, by simp, by simp⟩ ?_
  rintro k q ⟨i, rfl, hi, hr⟩
  simp only [go_sem, ↓reduceIte, reduceCtorEq, upd_ne, back_new (no_at), Nat.reduceAdd, Nat.reduceEqDiff, Nat.reduceMul, Nat.reduceSub, Nat.reduceLeDiff, Nat.reduceLT, Int.reduceToNat, Int.reduceLE, Int.reduceLT, Int.reduceEq, UInt8.reduceOfNat]
  refine nxt_ite (fun h => ?_) (fun h => ?_)
  · have hlt : i < ex.length := by omega
    obtain ⟨e, he⟩ : ∃ e, ex[i]? = some e := ⟨ex[i], by simp [hlt]⟩
    have hd := drop_ex he
    have e1 : IntKind.i64.wrap ((i : Int) + 1) = ((i + 1 : Nat) : Int) := by rw [wrap_id (by omega) (by omega)]; omega
    by_cases h1 : isE e.1
    · have h1' : decide (isE e.1) = true := decide_eq_true h1
      simp only [go_sem, ↓reduceIte, reduceCtorEq, upd_ne, back_new (no_at), Nat.reduceAdd, Nat.reduceEqDiff, Nat.reduceMul, Nat.reduceSub, Nat.reduceLeDiff, Nat.reduceLT, Int.reduceToNat, Int.reduceLE, Int.reduceLT, Int.reduceEq, UInt8.reduceOfNat, List.getElem?_map, Int.toNat_natCast, he, hx, h1', e1]
      exact ⟨k - 1, by omega, i + 1, rfl, by omega, by rw [← hr, hd]; simp only [kB, List.all_cons, h1', Bool.true_and]⟩
    · have h1' : decide (isE e.1) = false := decide_eq_false h1
      have hk : kB ex = false := by rw [← hr, hd]; simp only [kB, List.all_cons, h1', Bool.false_and]
      have hk' : ¬ kd6 ex fg pt := fun q => by have := q.1; rw [hk] at this; simp at this
      simp only [go_sem, ↓reduceIte, reduceCtorEq, upd_ne, back_new (no_at), Nat.reduceAdd, Nat.reduceEqDiff, Nat.reduceMul, Nat.reduceSub, Nat.reduceLeDiff, Nat.reduceLT, Int.reduceToNat, Int.reduceLE, Int.reduceLT, Int.reduceEq, UInt8.reduceOfNat, List.getElem?_map, Int.toNat_natCast, he, hx, h1', e1, Nxt, exIf, decide_eq_false hk']
  · rw [List.drop_eq_nil_of_le (by omega)] at hr
    have hk : kB ex = true := by rw [← hr]; rfl
    cases fg
    · by_cases h1 : isE pt
      · have h1' : decide (isE pt) = true := decide_eq_true h1
        have hk' : ¬ kd6 ex false pt := fun q => (q.2 rfl).1 h1
        simp only [go_sem, ↓reduceIte, reduceCtorEq, upd_ne, back_new (no_at), Nat.reduceAdd, Nat.reduceEqDiff, Nat.reduceMul, Nat.reduceSub, Nat.reduceLeDiff, Nat.reduceLT, Int.reduceToNat, Int.reduceLE, Int.reduceLT, Int.reduceEq, UInt8.reduceOfNat, hfr, hto, hx, h1', Nxt, exIf, decide_eq_false hk']
      · have h1' : decide (isE pt) = false := decide_eq_false h1
        by_cases h2 : pt = 44
        · have hk' : ¬ kd6 ex false pt := fun q => (q.2 rfl).2 h2
          simp only [go_sem, ↓reduceIte, reduceCtorEq, upd_ne, back_new (no_at), Nat.reduceAdd, Nat.reduceEqDiff, Nat.reduceMul, Nat.reduceSub, Nat.reduceLeDiff, Nat.reduceLT, Int.reduceToNat, Int.reduceLE, Int.reduceLT, Int.reduceEq, UInt8.reduceOfNat, hfr, hto, hx, h1', Nxt, exIf, decide_eq_false hk']
          simp [h2]
        · have hk' : kd6 ex false pt := ⟨hk, fun _ => ⟨h1, h2⟩⟩
          simp only [go_sem, ↓reduceIte, reduceCtorEq, upd_ne, back_new (no_at), Nat.reduceAdd, Nat.reduceEqDiff, Nat.reduceMul, Nat.reduceSub, Nat.reduceLeDiff, Nat.reduceLT, Int.reduceToNat, Int.reduceLE, Int.reduceLT, Int.reduceEq, UInt8.reduceOfNat, hfr, hto, hx, h1', Nxt, exIf, decide_eq_true hk']
          simp [h2]
    · have hk' : kd6 ex true pt := ⟨hk, fun q => by simp at q⟩
      simp only [go_sem, ↓reduceIte, reduceCtorEq, upd_ne, back_new (no_at), Nat.reduceAdd, Nat.reduceEqDiff, Nat.reduceMul, Nat.reduceSub, Nat.reduceLeDiff, Nat.reduceLT, Int.reduceToNat, Int.reduceLE, Int.reduceLT, Int.reduceEq, UInt8.reduceOfNat, hfr, hto, hx, Nxt, exIf, decide_eq_true hk']
theorem ev_formed (hfr : fr.length = 16) (hto : to.length = 16) (hl : ex.length ≤ 140737488351232) (hda : da.length ≤ 140737488351232) :
    S.ev (n + 2) id_ip6_formed [ip6LV cl fl ho fr to (extsLV ex) fg id at' mo pt da] none = some (.bool (decide (fm6' ex fg id at' mo da)), none) := by
  rw [Sys.step hS.h_ip6_formed, F_ip6_formed_eq]
  unfold F_ip6_formed
  have hp := ev_pieced hS n (cl := cl) (fl := fl) (ho := ho) (ex := ex.map extLV) (fg := true) (id := id) (at' := at') (mo := mo) (pt := pt) (da := da) hfr hto
  (try simp only [guard_merge, or_merge, and_merge, or_pick, and_pick, guard_or, guard_and]); simp only [to_ob]
  simp only [go_sem, ↓reduceIte, reduceCtorEq, upd_ne, back_new (no_at), Nat.reduceAdd, Nat.reduceEqDiff, Nat.reduceMul, Nat.reduceSub, Nat.reduceLeDiff, Nat.reduceLT, Int.reduceToNat, Int.reduceLE, Int.reduceLT, Int.reduceEq, UInt8.reduceOfNat, hfr, hto, List.length_map]
  refine while_rule (fun k q => ∃ i : Nat, q = ([.bool false, .int .i64 (i : Int)], noSlots) ∧ i + k = ex.length ∧ fB (decide (i = 0)) (ex.drop i) = fB true ex) ex.length ⟨0, rfl, by simp, by simp⟩ ?_
  rintro k q ⟨i, rfl, hi, hr⟩
  simp only [go_sem, ↓reduceIte, reduceCtorEq, upd_ne, back_new (no_at), Nat.reduceAdd, Nat.reduceEqDiff, Nat.reduceMul, Nat.reduceSub, Nat.reduceLeDiff, Nat.reduceLT, Int.reduceToNat, Int.reduceLE, Int.reduceLT, Int.reduceEq, UInt8.reduceOfNat]
  refine nxt_ite (fun h => ?_) (fun h => ?_)
  · have hlt : i < ex.length := by omega
    obtain ⟨e, he⟩ : ∃ e, ex[i]? = some e := ⟨ex[i], by simp [hlt]⟩
    have hd := drop_ex he
    have e1 : IntKind.i64.wrap ((i : Int) + 1) = ((i + 1 : Nat) : Int) := by rw [wrap_id (by omega) (by omega)]; omega
    have e2 : Int.tmod (e.2.length : Int) 8 = ((e.2.length % 8 : Nat) : Int) := rfl
    have bad : ¬ fE1 (decide (i = 0)) e → fB true ex = false := fun q => by rw [← hr, hd]; simp only [fB, decide_eq_false q, Bool.false_and]
    have bad' : ¬ fE1 (decide (i = 0)) e → decide (fm6' ex fg id at' mo da) = false := fun q => decide_eq_false fun p => by have := p.1; rw [bad q] at this; simp at this
    by_cases h1 : e.2.length % 8 = 6
    · have h1' : ((e.2.length % 8 : Nat) : Int) = 6 := by omega
      by_cases h2 : e.2.length ≤ 2046
      · have h2' : ¬ 2046 < (e.2.length : Int) := by omega
        by_cases h3 : e.1 = 0
        · by_cases h4 : i = 0
          · have h4' : ¬ 0 < (i : Int) := by omega
            simp only [go_sem, ↓reduceIte, reduceCtorEq, upd_ne, back_new (no_at), Nat.reduceAdd, Nat.reduceEqDiff, Nat.reduceMul, Nat.reduceSub, Nat.reduceLeDiff, Nat.reduceLT, Int.reduceToNat, Int.reduceLE, Int.reduceLT, Int.reduceEq, UInt8.reduceOfNat, List.getElem?_map, Int.toNat_natCast, he, e1, e2, h1', h2', h3, h4']
            refine ⟨k - 1, by omega, i + 1, rfl, by omega, ?_⟩
            have hg : fE1 (decide (i = 0)) e := ⟨h1, h2, fun _ => decide_eq_true h4⟩
            rw [← hr, hd]; simp only [fB, decide_eq_true hg, Bool.true_and]
            rw [show decide (i + 1 = 0) = false from decide_eq_false (by omega)]
          · have h4' : 0 < (i : Int) := by omega
            have hg : ¬ fE1 (decide (i = 0)) e := fun q => h4 (of_decide_eq_true (q.2.2 h3))
            simp only [go_sem, ↓reduceIte, reduceCtorEq, upd_ne, back_new (no_at), Nat.reduceAdd, Nat.reduceEqDiff, Nat.reduceMul, Nat.reduceSub, Nat.reduceLeDiff, Nat.reduceLT, Int.reduceToNat, Int.reduceLE, Int.reduceLT, Int.reduceEq, UInt8.reduceOfNat, List.getElem?_map, Int.toNat_natCast, he, e1, e2, h1', h2', h3, h4', Nxt, exIf, bad' hg]
        · simp only [go_sem, ↓reduceIte, reduceCtorEq, upd_ne, back_new (no_at), Nat.reduceAdd, Nat.reduceEqDiff, Nat.reduceMul, Nat.reduceSub, Nat.reduceLeDiff, Nat.reduceLT, Int.reduceToNat, Int.reduceLE, Int.reduceLT, Int.reduceEq, UInt8.reduceOfNat, List.getElem?_map, Int.toNat_natCast, he, e1, e2, h1', h2', h3]
          refine ⟨k - 1, by omega, i + 1, rfl, by omega, ?_⟩
          have hg : fE1 (decide (i = 0)) e := ⟨h1, h2, fun q => absurd q h3⟩
          rw [← hr, hd]; simp only [fB, decide_eq_true hg, Bool.true_and]
          rw [show decide (i + 1 = 0) = false from decide_eq_false (by omega)]
      · have h2' : 2046 < (e.2.length : Int) := by omega
        have hg : ¬ fE1 (decide (i = 0)) e := fun q => h2 q.2.1
        simp only [go_sem, ↓reduceIte, reduceCtorEq, upd_ne, back_new (no_at), Nat.reduceAdd, Nat.reduceEqDiff, Nat.reduceMul, Nat.reduceSub, Nat.reduceLeDiff, Nat.reduceLT, Int.reduceToNat, Int.reduceLE, Int.reduceLT, Int.reduceEq, UInt8.reduceOfNat, List.getElem?_map, Int.toNat_natCast, he, e1, e2, h1', h2', Nxt, exIf, bad' hg]
    · have h1' : ¬ ((e.2.length % 8 : Nat) : Int) = 6 := by omega
      have hg : ¬ fE1 (decide (i = 0)) e := fun q => h1 q.1
      simp only [go_sem, ↓reduceIte, reduceCtorEq, upd_ne, back_new (no_at), Nat.reduceAdd, Nat.reduceEqDiff, Nat.reduceMul, Nat.reduceSub, Nat.reduceLeDiff, Nat.reduceLT, Int.reduceToNat, Int.reduceLE, Int.reduceLT, Int.reduceEq, UInt8.reduceOfNat, List.getElem?_map, Int.toNat_natCast, he, e1, e2, h1', Nxt, exIf, bad' hg]
  · rw [List.drop_eq_nil_of_le (by omega)] at hr
    have hk : fB true ex = true := by rw [← hr]; cases decide (i = 0) <;> rfl
    cases fg
    · have hq : decide (fm6' ex false id at' mo da) = (decide (id = 0) && (decide (at' = 0) && !mo)) := by
        rw [Bool.eq_iff_iff]
        simp only [fm6', hk, decide_eq_true_eq, Bool.and_eq_true, Bool.not_eq_true', true_and, Bool.false_eq_true, if_false]
      rw [hq]
      by_cases h1 : id = 0 <;> by_cases h2 : at' = 0 <;> cases mo <;> simp only [go_sem, ↓reduceIte, reduceCtorEq, upd_ne, back_new (no_at), Nat.reduceAdd, Nat.reduceEqDiff, Nat.reduceMul, Nat.reduceSub, Nat.reduceLeDiff, Nat.reduceLT, Int.reduceToNat, Int.reduceLE, Int.reduceLT, Int.reduceEq, UInt8.reduceOfNat, hfr, hto, Nxt, exIf, h1, h2]
    · have hq : decide (fm6' ex true id at' mo da) = decide (pc6 mo da) := by
        apply decide_eq_decide.2
        simp only [fm6', hk, true_and, if_true]
      simp only [go_sem, ↓reduceIte, reduceCtorEq, upd_ne, back_new (no_at), Nat.reduceAdd, Nat.reduceEqDiff, Nat.reduceMul, Nat.reduceSub, Nat.reduceLeDiff, Nat.reduceLT, Int.reduceToNat, Int.reduceLE, Int.reduceLT, Int.reduceEq, UInt8.reduceOfNat, hfr, hto, hp, Nxt, exIf, hq]
theorem ev_size (hfr : fr.length = 16) (hto : to.length = 16) (hl : ex.length ≤ 20) (hb : ∀ e ∈ ex, e.2.length ≤ 70000) (hda : da.length ≤ 140737488351232) :
    S.ev (n + 1) id_ip6_size [ip6LV cl fl ho fr to (extsLV ex) fg id at' mo pt da] none = some (.int .i64 (bh6 ex fg da : Nat), none) := by
  rw [Sys.step hS.h_ip6_size, F_ip6_size_eq]
  unfold F_ip6_size
  have hsz := szE_le ex hb
  (try simp only [guard_merge, or_merge, and_merge, or_pick, and_pick, guard_or, guard_and]); simp only [to_ob]
  have go : ∀ (b0 : Nat) (i : Nat) (e : Int × List UInt8), b0 ≤ 140737488351240 → ex[i]? = some e → IntKind.i64.wrap (((b0 + szE (ex.take i) : Nat) : Int) + IntKind.i64.wrap ((e.2.length : Int) + 2)) = ((b0 + szE (ex.take (i + 1)) : Nat) : Int) := by
    intro b0 i e hb0 he
    have htk : ex.take (i + 1) = ex.take i ++ [e] := by rw [List.take_add_one, he]; rfl
    have h1 := hb e (List.mem_of_getElem? he)
    have h2 := szE_le (ex.take i) fun x hx => hb x (List.mem_of_mem_take hx)
    rw [List.length_take] at h2
    rw [wrap_id (n := (e.2.length : Int) + 2) (by omega) (by omega), wrap_id (by omega) (by omega), htk, szE_app]
    simp only [szE]
    omega
  have e0 : IntKind.i64.wrap ((da.length : Int) + 8) = ((da.length + 8 : Nat) : Int) := by rw [wrap_id (by omega) (by omega)]; omega
  cases fg
  · simp only [go_sem, ↓reduceIte, reduceCtorEq, upd_ne, back_new (no_at), Nat.reduceAdd, Nat.reduceEqDiff, Nat.reduceMul, Nat.reduceSub, Nat.reduceLeDiff, Nat.reduceLT, Int.reduceToNat, Int.reduceLE, Int.reduceLT, Int.reduceEq, UInt8.reduceOfNat, hfr, hto, List.length_map]
    refine while_rule (fun k q => ∃ i : Nat, q = ([.int .i64 ((da.length + szE (ex.take i) : Nat) : Int), .int .i64 (i : Int)], noSlots) ∧ i + k = ex.length) ex.length ⟨0, by simp [szE], by simp⟩ ?_
    rintro k q ⟨i, rfl, hi⟩
    simp only [go_sem, ↓reduceIte, reduceCtorEq, upd_ne, back_new (no_at), Nat.reduceAdd, Nat.reduceEqDiff, Nat.reduceMul, Nat.reduceSub, Nat.reduceLeDiff, Nat.reduceLT, Int.reduceToNat, Int.reduceLE, Int.reduceLT, Int.reduceEq, UInt8.reduceOfNat]
    refine nxt_ite (fun h => ?_) (fun h => ?_)
    · have hlt : i < ex.length := by omega
      obtain ⟨e, he⟩ : ∃ e, ex[i]? = some e := ⟨ex[i], by simp [hlt]⟩
      have e1 : IntKind.i64.wrap ((i : Int) + 1) = ((i + 1 : Nat) : Int) := by rw [wrap_id (by omega) (by omega)]; omega
      have e2 := go da.length i e (by omega) he
      simp only [go_sem, ↓reduceIte, reduceCtorEq, upd_ne, back_new (no_at), Nat.reduceAdd, Nat.reduceEqDiff, Nat.reduceMul, Nat.reduceSub, Nat.reduceLeDiff, Nat.reduceLT, Int.reduceToNat, Int.reduceLE, Int.reduceLT, Int.reduceEq, UInt8.reduceOfNat, List.getElem?_map, Int.toNat_natCast, he, e1, e2]
      exact ⟨k - 1, by omega, i + 1, rfl, by omega⟩
    · rw [List.take_of_length_le (by omega)]
      have : bh6 ex false da = da.length + szE ex := by unfold bh6; rw [if_neg Bool.false_ne_true]; omega
      simp only [go_sem, ↓reduceIte, reduceCtorEq, upd_ne, back_new (no_at), Nat.reduceAdd, Nat.reduceEqDiff, Nat.reduceMul, Nat.reduceSub, Nat.reduceLeDiff, Nat.reduceLT, Int.reduceToNat, Int.reduceLE, Int.reduceLT, Int.reduceEq, UInt8.reduceOfNat, Nxt, exIf, this]
  · simp only [go_sem, ↓reduceIte, reduceCtorEq, upd_ne, back_new (no_at), Nat.reduceAdd, Nat.reduceEqDiff, Nat.reduceMul, Nat.reduceSub, Nat.reduceLeDiff, Nat.reduceLT, Int.reduceToNat, Int.reduceLE, Int.reduceLT, Int.reduceEq, UInt8.reduceOfNat, hfr, hto, e0, List.length_map]
    refine while_rule (fun k q => ∃ i : Nat, q = ([.int .i64 ((da.length + 8 + szE (ex.take i) : Nat) : Int), .int .i64 (i : Int)], noSlots) ∧ i + k = ex.length) ex.length ⟨0, by simp [szE], by simp⟩ ?_
    rintro k q ⟨i, rfl, hi⟩
    simp only [go_sem, ↓reduceIte, reduceCtorEq, upd_ne, back_new (no_at), Nat.reduceAdd, Nat.reduceEqDiff, Nat.reduceMul, Nat.reduceSub, Nat.reduceLeDiff, Nat.reduceLT, Int.reduceToNat, Int.reduceLE, Int.reduceLT, Int.reduceEq, UInt8.reduceOfNat]
    refine nxt_ite (fun h => ?_) (fun h => ?_)
    · have hlt : i < ex.length := by omega
      obtain ⟨e, he⟩ : ∃ e, ex[i]? = some e := ⟨ex[i], by simp [hlt]⟩
      have e1 : IntKind.i64.wrap ((i : Int) + 1) = ((i + 1 : Nat) : Int) := by rw [wrap_id (by omega) (by omega)]; omega
      have e2 := go (da.length + 8) i e (by omega) he
      simp only [go_sem, ↓reduceIte, reduceCtorEq, upd_ne, back_new (no_at), Nat.reduceAdd, Nat.reduceEqDiff, Nat.reduceMul, Nat.reduceSub, Nat.reduceLeDiff, Nat.reduceLT, Int.reduceToNat, Int.reduceLE, Int.reduceLT, Int.reduceEq, UInt8.reduceOfNat, List.getElem?_map, Int.toNat_natCast, he, e1, e2]
      exact ⟨k - 1, by omega, i + 1, rfl, by omega⟩
    · rw [List.take_of_length_le (by omega)]
      have : bh6 ex true da = da.length + 8 + szE ex := by unfold bh6; rw [if_pos rfl]; omega
      simp only [go_sem, ↓reduceIte, reduceCtorEq, upd_ne, back_new (no_at), Nat.reduceAdd, Nat.reduceEqDiff, Nat.reduceMul, Nat.reduceSub, Nat.reduceLeDiff, Nat.reduceLT, Int.reduceToNat, Int.reduceLE, Int.reduceLT, Int.reduceEq, UInt8.reduceOfNat, Nxt, exIf, this]
theorem ev_why6 (hfr : fr.length = 16) (hto : to.length = 16) (hl : ex.length ≤ 140737488351232) (hb : ∀ e ∈ ex, e.2.length ≤ 140737488351232) (hda : da.length ≤ 140737488351232) :
    S.ev (n + 3) id_ip6_why [ip6LV cl fl ho fr to (extsLV ex) fg id at' mo pt da] none = some (.int .i64 (why6 cl fl ho ex fg id at' mo pt da), none) := by
  rw [Sys.step hS.h_ip6_why, F_ip6_why_eq]
  unfold F_ip6_why
  have hw := ev_within6 hS (n + 1)
  have hk := ev_kinds hS n (cl := cl) (fl := fl) (ho := ho) (fg := fg) (id := id) (at' := at') (mo := mo) (pt := pt) (da := da) hfr hto hl
  have hf := ev_formed hS n (cl := cl) (fl := fl) (ho := ho) (fg := fg) (id := id) (at' := at') (mo := mo) (pt := pt) (da := da) hfr hto hl hda
  (try simp only [guard_merge, or_merge, and_merge, or_pick, and_pick, guard_or, guard_and]); simp only [to_ob]
  unfold why6
  by_cases c1 : rg6 cl fl ho at' pt
  · rw [if_pos c1]
    obtain ⟨⟨a1, a2⟩, ⟨a3, a4⟩, ⟨a5, a6⟩, ⟨a7, a8⟩, ⟨a9, a10⟩, a11⟩ := c1
    have w0 : IntKind.i64.wrap (65535 - at') = 65535 - at' := wrap_id (by omega) (by omega)
    by_cases c2 : kd6 ex fg pt
    · rw [if_pos c2]
      rw [decide_eq_true c2] at hk
      by_cases c3 : fm6' ex fg id at' mo da
      · rw [if_pos c3]
        rw [decide_eq_true c3] at hf
        by_cases c4 : ex.length ≤ 8
        · have c4' : ¬ 8 < (ex.length : Int) := by omega
          by_cases c5 : at' + da.length ≤ 65535
          · have c5' : ¬ 65535 - at' < (da.length : Int) := by omega
            have hb2 : ∀ e ∈ ex, e.2.length ≤ 70000 := by
              have : ∀ (l : List (Int × List UInt8)) (f : Bool), fB f l = true → ∀ e ∈ l, e.2.length ≤ 2046 := by
                intro l
                induction l with
                | nil => intro f h e he; simp at he
                | cons x l ih =>
                  intro f h e he
                  simp only [fB, Bool.and_eq_true, decide_eq_true_eq] at h
                  rcases List.mem_cons.1 he with rfl | he
                  · exact h.1.2.1
                  · exact ih _ h.2 e he
              intro e he
              have := this ex true c3.1 e he
              omega
            have hz := ev_size hS (n + 1) (cl := cl) (fl := fl) (ho := ho) (fr := fr) (to := to) (fg := fg) (id := id) (at' := at') (mo := mo) (pt := pt) (da := da) hfr hto (by omega) hb2 hda
            by_cases c6 : bh6 ex fg da ≤ 65535
            · have c6' : ¬ 65535 < ((bh6 ex fg da : Nat) : Int) := by omega
              simp only [go_sem, ↓reduceIte, reduceCtorEq, upd_ne, back_new (no_at), Nat.reduceAdd, Nat.reduceEqDiff, Nat.reduceMul, Nat.reduceSub, Nat.reduceLeDiff, Nat.reduceLT, Int.reduceToNat, Int.reduceLE, Int.reduceLT, Int.reduceEq, UInt8.reduceOfNat, hfr, hto, hw, a1, a2, a3, a4, a5, a6, a7, a8, a9, a10, a11, hk, hf, c4, c4', c5, c5', c6, c6', w0, hz, List.length_map]
            · have c6' : 65535 < ((bh6 ex fg da : Nat) : Int) := by omega
              simp only [go_sem, ↓reduceIte, reduceCtorEq, upd_ne, back_new (no_at), Nat.reduceAdd, Nat.reduceEqDiff, Nat.reduceMul, Nat.reduceSub, Nat.reduceLeDiff, Nat.reduceLT, Int.reduceToNat, Int.reduceLE, Int.reduceLT, Int.reduceEq, UInt8.reduceOfNat, hfr, hto, hw, a1, a2, a3, a4, a5, a6, a7, a8, a9, a10, a11, hk, hf, c4, c4', c5, c5', c6, c6', w0, hz, List.length_map]
          · have c5' : 65535 - at' < (da.length : Int) := by omega
            simp only [go_sem, ↓reduceIte, reduceCtorEq, upd_ne, back_new (no_at), Nat.reduceAdd, Nat.reduceEqDiff, Nat.reduceMul, Nat.reduceSub, Nat.reduceLeDiff, Nat.reduceLT, Int.reduceToNat, Int.reduceLE, Int.reduceLT, Int.reduceEq, UInt8.reduceOfNat, hfr, hto, hw, a1, a2, a3, a4, a5, a6, a7, a8, a9, a10, a11, hk, hf, c4, c4', c5, c5', w0, List.length_map]
        · have c4' : 8 < (ex.length : Int) := by omega
          simp only [go_sem, ↓reduceIte, reduceCtorEq, upd_ne, back_new (no_at), Nat.reduceAdd, Nat.reduceEqDiff, Nat.reduceMul, Nat.reduceSub, Nat.reduceLeDiff, Nat.reduceLT, Int.reduceToNat, Int.reduceLE, Int.reduceLT, Int.reduceEq, UInt8.reduceOfNat, hfr, hto, hw, a1, a2, a3, a4, a5, a6, a7, a8, a9, a10, a11, hk, hf, c4, c4', List.length_map]
      · rw [if_neg c3]
        rw [decide_eq_false c3] at hf
        simp only [go_sem, ↓reduceIte, reduceCtorEq, upd_ne, back_new (no_at), Nat.reduceAdd, Nat.reduceEqDiff, Nat.reduceMul, Nat.reduceSub, Nat.reduceLeDiff, Nat.reduceLT, Int.reduceToNat, Int.reduceLE, Int.reduceLT, Int.reduceEq, UInt8.reduceOfNat, hfr, hto, hw, a1, a2, a3, a4, a5, a6, a7, a8, a9, a10, a11, hk, hf]
    · rw [if_neg c2]
      rw [decide_eq_false c2] at hk
      simp only [go_sem, ↓reduceIte, reduceCtorEq, upd_ne, back_new (no_at), Nat.reduceAdd, Nat.reduceEqDiff, Nat.reduceMul, Nat.reduceSub, Nat.reduceLeDiff, Nat.reduceLT, Int.reduceToNat, Int.reduceLE, Int.reduceLT, Int.reduceEq, UInt8.reduceOfNat, hfr, hto, hw, a1, a2, a3, a4, a5, a6, a7, a8, a9, a10, a11, hk]
  · rw [if_neg c1]
    by_cases b1 : 0 ≤ cl ∧ cl ≤ 255
    · by_cases b2 : 0 ≤ fl ∧ fl ≤ 1048575
      · by_cases b3 : 0 ≤ ho ∧ ho ≤ 255
        · by_cases b4 : 0 ≤ pt ∧ pt ≤ 255
          · by_cases b5 : 0 ≤ at' ∧ at' ≤ 65528
            · have b6 : ¬ Int.tmod at' 8 = 0 := fun h => c1 ⟨b1, b2, b3, b4, b5, h⟩
              simp only [go_sem, ↓reduceIte, reduceCtorEq, upd_ne, back_new (no_at), Nat.reduceAdd, Nat.reduceEqDiff, Nat.reduceMul, Nat.reduceSub, Nat.reduceLeDiff, Nat.reduceLT, Int.reduceToNat, Int.reduceLE, Int.reduceLT, Int.reduceEq, UInt8.reduceOfNat, hw, hfr, hto, decide_eq_true b1, decide_eq_true b2, decide_eq_true b3, decide_eq_true b4, decide_eq_true b5, b6]
            · simp only [go_sem, ↓reduceIte, reduceCtorEq, upd_ne, back_new (no_at), Nat.reduceAdd, Nat.reduceEqDiff, Nat.reduceMul, Nat.reduceSub, Nat.reduceLeDiff, Nat.reduceLT, Int.reduceToNat, Int.reduceLE, Int.reduceLT, Int.reduceEq, UInt8.reduceOfNat, hw, hfr, hto, decide_eq_true b1, decide_eq_true b2, decide_eq_true b3, decide_eq_true b4, decide_eq_false b5]
          · simp only [go_sem, ↓reduceIte, reduceCtorEq, upd_ne, back_new (no_at), Nat.reduceAdd, Nat.reduceEqDiff, Nat.reduceMul, Nat.reduceSub, Nat.reduceLeDiff, Nat.reduceLT, Int.reduceToNat, Int.reduceLE, Int.reduceLT, Int.reduceEq, UInt8.reduceOfNat, hw, hfr, hto, decide_eq_true b1, decide_eq_true b2, decide_eq_true b3, decide_eq_false b4]
        · simp only [go_sem, ↓reduceIte, reduceCtorEq, upd_ne, back_new (no_at), Nat.reduceAdd, Nat.reduceEqDiff, Nat.reduceMul, Nat.reduceSub, Nat.reduceLeDiff, Nat.reduceLT, Int.reduceToNat, Int.reduceLE, Int.reduceLT, Int.reduceEq, UInt8.reduceOfNat, hw, hfr, hto, decide_eq_true b1, decide_eq_true b2, decide_eq_false b3]
      · simp only [go_sem, ↓reduceIte, reduceCtorEq, upd_ne, back_new (no_at), Nat.reduceAdd, Nat.reduceEqDiff, Nat.reduceMul, Nat.reduceSub, Nat.reduceLeDiff, Nat.reduceLT, Int.reduceToNat, Int.reduceLE, Int.reduceLT, Int.reduceEq, UInt8.reduceOfNat, hw, hfr, hto, decide_eq_true b1, decide_eq_false b2]
    · simp only [go_sem, ↓reduceIte, reduceCtorEq, upd_ne, back_new (no_at), Nat.reduceAdd, Nat.reduceEqDiff, Nat.reduceMul, Nat.reduceSub, Nat.reduceLeDiff, Nat.reduceLT, Int.reduceToNat, Int.reduceLE, Int.reduceLT, Int.reduceEq, UInt8.reduceOfNat, hw, hfr, hto, decide_eq_false b1]
end
end Go.Ev

/- Layer 4: a packet's bytes. -/
namespace Go.Ev
set_option linter.unusedSimpArgs false
set_option linter.unusedVariables false
set_option maxRecDepth 4000
set_option maxHeartbeats 8000000
def nxE : List (Int × List UInt8) → Int → Int
  | [], p => p
  | e :: _, _ => e.1
def exB : List (Int × List UInt8) → Int → List UInt8 → List UInt8
  | [], _, b => b
  | e :: l, p, b => beB 1 (nxE l p).toNat ++ (beB 1 (e.2.length / 8) ++ (e.2 ++ exB l p b))
def pcB (id at' : Int) (mo : Bool) (pt : Int) (da : List UInt8) : List UInt8 := beB 1 pt.toNat ++ (0 :: (beB 2 (at'.toNat + if mo = true then 1 else 0) ++ (beB 4 id.toNat ++ da)))
def bd6 (ex : List (Int × List UInt8)) (fg : Bool) (id at' : Int) (mo : Bool) (pt : Int) (da : List UInt8) : List UInt8 := if fg = true then exB ex 44 (pcB id at' mo pt da) else exB ex pt da
def by6 (cl fl ho : Int) (fr to : List UInt8) (ex : List (Int × List UInt8)) (fg : Bool) (id at' : Int) (mo : Bool) (pt : Int) (da : List UInt8) : List UInt8 :=
  beB 4 (1610612736 + cl.toNat * 1048576 + fl.toNat) ++ (beB 2 (bd6 ex fg id at' mo pt da).length ++ (beB 1 (nxE ex (if fg = true then 44 else pt)).toNat ++ (beB 1 ho.toNat ++ (fr ++ (to ++ bd6 ex fg id at' mo pt da)))))
def by6R (cl fl ho : Int) (fr to : List UInt8) (ex : List (Int × List UInt8)) (fg : Bool) (id at' : Int) (mo : Bool) (pt : Int) (da : List UInt8) : List UInt8 :=
  if why6 cl fl ho ex fg id at' mo pt da = 0 then by6 cl fl ho fr to ex fg id at' mo pt da else []
structure Ok6 (cl fl ho : Int) (ex : List (Int × List UInt8)) (fg : Bool) (id at' : Int) (mo : Bool) (pt : Int) (da : List UInt8) : Prop where
  rg : rg6 cl fl ho at' pt
  kd : kd6 ex fg pt
  fm : fm6' ex fg id at' mo da
  n8 : ex.length ≤ 8
  all : at' + da.length ≤ 65535
  bh : bh6 ex fg da ≤ 65535
theorem why6_zero {cl fl ho : Int} {ex : List (Int × List UInt8)} {fg : Bool} {id at' : Int} {mo : Bool} {pt : Int} {da : List UInt8} : why6 cl fl ho ex fg id at' mo pt da = 0 ↔ Ok6 cl fl ho ex fg id at' mo pt da := by
  unfold why6
  constructor
  · intro h
    split at h
    case isFalse => simp at h
    rename_i h1
    split at h
    case isFalse => simp at h
    rename_i h2
    split at h
    case isFalse => simp at h
    rename_i h3
    split at h
    case isFalse => simp at h
    rename_i h4
    exact ⟨h1, h2, h3, h4.1, h4.2.1, h4.2.2⟩
  · intro h
    rw [if_pos h.rg, if_pos h.kd, if_pos h.fm, if_pos ⟨h.n8, h.all, h.bh⟩]
theorem fB_le : ∀ (l : List (Int × List UInt8)) (f : Bool), fB f l = true → ∀ e ∈ l, e.2.length % 8 = 6 ∧ e.2.length ≤ 2046
  | [], _, _, e, he => by simp at he
  | x :: l, f, h, e, he => by
    simp only [fB, Bool.and_eq_true, decide_eq_true_eq] at h
    rcases List.mem_cons.1 he with rfl | he
    · exact ⟨h.1.1, h.1.2.1⟩
    · exact fB_le l _ h.2 e he
theorem exB_len : ∀ (l : List (Int × List UInt8)) (p : Int) (b : List UInt8), (exB l p b).length = szE l + b.length
  | [], p, b => by simp [exB, szE]
  | e :: l, p, b => by simp only [exB, szE, List.length_append, beB_len, exB_len l p b]; omega
theorem nxE_rg {l : List (Int × List UInt8)} {p : Int} (h : kB l = true) (hp : 0 ≤ p ∧ p ≤ 255) : 0 ≤ nxE l p ∧ nxE l p ≤ 255 := by
  cases l with
  | nil => exact hp
  | cons e l =>
    simp only [kB, List.all_cons, Bool.and_eq_true, decide_eq_true_eq] at h
    show 0 ≤ e.1 ∧ e.1 ≤ 255
    rcases h.1 with (h | h) | h <;> omega
theorem szE_drop (l : List (Int × List UInt8)) (i : Nat) : szE (l.drop i) ≤ szE l := by
  conv => rhs; rw [← List.take_append_drop i l, szE_app]
  omega
theorem kB_drop {l : List (Int × List UInt8)} {i : Nat} (h : kB l = true) : kB (l.drop i) = true := by
  unfold kB at *
  rw [List.all_eq_true] at *
  intro e he
  exact h e (List.mem_of_mem_drop he)
theorem or6a {c : Nat} (hc : c ≤ 255) : 1610612736 ||| c * 1048576 = 1610612736 + c * 1048576 := by
  rw [show 1610612736 = 6 <<< 28 by rfl, ← Nat.shiftLeft_add_eq_or_of_lt (by omega)]
theorem or6b {c f : Nat} (hc : c ≤ 255) (hf : f ≤ 1048575) : (1610612736 + c * 1048576) ||| f = 1610612736 + c * 1048576 + f := by
  have h : 1610612736 + c * 1048576 = (1536 + c) <<< 20 := by simp only [Nat.shiftLeft_eq]; omega
  rw [h, ← Nat.shiftLeft_add_eq_or_of_lt (by omega)]
theorem lt4 {x : Int} (h : 0 ≤ x) (h1 : x < 4294967296) : 0 ≤ x ∧ x < ((256 ^ 4 : Nat) : Int) := ⟨h, h1⟩
section
variable {S : Sys} (hS : Has S) (n : Nat)
include hS
theorem ev_big6 (x : Int) (m : Nat) (hm : m = 1 ∨ m = 2 ∨ m = 4) (hx : 0 ≤ x ∧ x < ((256 ^ m : Nat) : Int)) (h64 : I64 x) : S.ev (n + 2) id_ip6_big [.int .i64 x, .int .i64 (m : Int)] none = some (.str (beB m x.toNat), none) := by
  rw [Sys.step hS.h_ip6_big, F_ip6_big_eq]
  unfold F_ip6_big
  have h1 := ev_Big hS n x m hm h64
  unfold bigR at h1
  rw [if_pos hx] at h1
  (try simp only [guard_merge, or_merge, and_merge, or_pick, and_pick, guard_or, guard_and]); simp only [to_ob]
  simp only [go_sem, ↓reduceIte, reduceCtorEq, upd_ne, back_new (no_at), Nat.reduceAdd, Nat.reduceEqDiff, Nat.reduceMul, Nat.reduceSub, Nat.reduceLeDiff, Nat.reduceLT, Int.reduceToNat, Int.reduceLE, Int.reduceLT, Int.reduceEq, UInt8.reduceOfNat, h1]
theorem ev_b61 {x : Int} (h : 0 ≤ x) (h1 : x < 256) : S.ev (n + 2) id_ip6_big [.int .i64 x, .int .i64 1] none = some (.str (beB 1 x.toNat), none) := ev_big6 hS n x 1 (by omega) (lt1 h h1) ⟨by omega, by omega⟩
theorem ev_b62 {x : Int} (h : 0 ≤ x) (h1 : x < 65536) : S.ev (n + 2) id_ip6_big [.int .i64 x, .int .i64 2] none = some (.str (beB 2 x.toNat), none) := ev_big6 hS n x 2 (by omega) (lt2 h h1) ⟨by omega, by omega⟩
theorem ev_b64 {x : Int} (h : 0 ≤ x) (h1 : x < 4294967296) : S.ev (n + 2) id_ip6_big [.int .i64 x, .int .i64 4] none = some (.str (beB 4 x.toNat), none) := ev_big6 hS n x 4 (by omega) (lt4 h h1) ⟨by omega, by omega⟩
theorem ev_bytes6_tt {cl fl ho : Int} {fr to : List UInt8} {ex : List (Int × List UInt8)} {id at' : Int} {pt : Int} {da : List UInt8} (hf : FitIp6 cl fl ho fr to ex id at' pt da) (c : why6 cl fl ho ex true id at' true pt da = 0) :
    S.ev (n + 4) id_ip6_Bytes [ip6LV cl fl ho fr to (extsLV ex) true id at' true pt da] none = some (.tup [.str (by6 cl fl ho fr to ex true id at' true pt da), .nili], none) := by
  rw [Sys.step hS.h_ip6_Bytes, F_ip6_Bytes_eq]
  unfold F_ip6_Bytes
  have hfr := hf.hfr
  have hto := hf.hto
  have hw := ev_why6 hS n (cl := cl) (fl := fl) (ho := ho) (fr := fr) (to := to) (ex := ex) (fg := true) (id := id) (at' := at') (mo := true) (pt := pt) (da := da) hfr hto hf.hex (fun e he => (hf.hexs e he).2) hf.hda
  rw [c] at hw
  have ok := why6_zero.1 c
  obtain ⟨⟨⟨a1, a2⟩, ⟨a3, a4⟩, ⟨a5, a6⟩, ⟨a7, a8⟩, ⟨a9, a10⟩, a11⟩, ok2, ok3, ok4, ok5, ok6⟩ := ok
  have hkb := ok2.1
  have hfb := fB_le ex true ok3.1
  have hid := hf.hid
  (try simp only [guard_merge, or_merge, and_merge, or_pick, and_pick, guard_or, guard_and]); simp only [to_ob]
  unfold by6 bd6
  simp only [Bool.false_eq_true, if_true, if_false]
  unfold bh6 at ok6
  simp only [Bool.false_eq_true, if_true, if_false] at ok6
  have b1 := ev_b61 hS (n + 1) (x := pt) (by omega) (by omega)
  have b2 := ev_b62 hS (n + 1) (x := at' + 1) (by omega) (by omega)
  have b3 := ev_b64 hS (n + 1) (x := id) (by omega) (by omega)
  have b4 := ev_b61 hS (n + 1) (x := ho) (by omega) (by omega)
  obtain ⟨cl, rfl⟩ := Int.eq_ofNat_of_zero_le a1
  obtain ⟨fl, rfl⟩ := Int.eq_ofNat_of_zero_le a3
  have b5 := ev_b64 hS (n + 1) (x := ((1610612736 + cl * 1048576 + fl : Nat) : Int)) (by omega) (by omega)
  have w1 : IntKind.i64.wrap id = id := wrap_id (by omega) (by omega)
  have w2 : IntKind.i64.wrap (at' + 1) = at' + 1 := wrap_id (by omega) (by omega)
  have w3 : IntKind.i64.wrap ((ex.length : Int) - 1) = (ex.length : Int) - 1 := wrap_id (by omega) (by omega)
  have w4 : IntKind.i64.wrap ((cl : Int) * 2 ^ min 20 64) = ((cl * 1048576 : Nat) : Int) := by rw [show min 20 64 = 20 from rfl, wrap_id (by omega) (by omega)]; omega
  have w5 : bitsOf .or .i64 1610612736 ((cl * 1048576 : Nat) : Int) = ((1610612736 + cl * 1048576 : Nat) : Int) := by
    rw [show (1610612736 : Int) = ((1610612736 : Nat) : Int) from rfl, bits_or_nat (by decide) (by simp [IntKind.max, IntKind.signed, IntKind.bits]; omega), or6a (by omega)]
  have w6 : bitsOf .or .i64 ((1610612736 + cl * 1048576 : Nat) : Int) (fl : Int) = ((1610612736 + cl * 1048576 + fl : Nat) : Int) := by
    rw [bits_or_nat (by simp [IntKind.max, IntKind.signed, IntKind.bits]; omega) (by simp [IntKind.max, IntKind.signed, IntKind.bits]; omega), or6b (by omega) (by omega)]
  have hl := beB_len
  have m0 : ∀ k : Nat, k ≤ 1000000 → k ≤ maxStr := fun k h => by unfold maxStr; omega
  have m2 : 2 ≤ maxStr := m0 _ (by decide)
  have m4 : 4 ≤ maxStr := m0 _ (by decide)
  have m6 : 6 ≤ maxStr := m0 _ (by decide)
  have m7 : 7 ≤ maxStr := m0 _ (by decide)
  have m8 : 8 ≤ maxStr := m0 _ (by decide)
  have m24 : 24 ≤ maxStr := m0 _ (by decide)
  have m40 : 40 ≤ maxStr := m0 _ (by decide)
  have mda : 8 + da.length ≤ maxStr := m0 _ (by omega)
  have ht1 : fr.take 16 = fr := List.take_of_length_le (by omega)
  have ht2 : to.take 16 = to := List.take_of_length_le (by omega)
  simp only [go_sem, ↓reduceIte, reduceCtorEq, upd_ne, back_new (no_at), Nat.reduceAdd, Nat.reduceEqDiff, Nat.reduceMul, Nat.reduceSub, Nat.reduceLeDiff, Nat.reduceLT, Int.reduceToNat, Int.reduceLE, Int.reduceLT, Int.reduceEq, UInt8.reduceOfNat, List.getElem?_map, Int.toNat_natCast, ↓e_sadd, hw, c, hfr, hto, b1, b2, b3, w1, w2, w3, hl, m2, m4, m6, m7, m8, mda, List.append_assoc, List.length_append, List.length_map]
  generalize hB : pcB id at' true pt da = B at *
  rw [show beB 1 pt.toNat ++ (0 :: (beB 2 (at' + 1).toNat ++ (beB 4 id.toNat ++ da))) = B by rw [← hB]; unfold pcB; rw [if_pos rfl, show (at' + 1).toNat = at'.toNat + 1 by omega]]
  have hBl : B.length ≤ 65535 := by rw [← hB]; unfold pcB; simp only [List.length_append, List.length_cons, beB_len]; omega
  have hBs : szE ex + B.length ≤ 65535 := by rw [← hB]; unfold pcB; simp only [List.length_append, List.length_cons, beB_len]; omega
  have hNr : 0 ≤ (44 : Int) ∧ (44 : Int) ≤ 255 := by omega
  refine while_rule (fun k q => ∃ i : Nat, q = ([.str (exB (ex.drop i) 44 B), .int .i64 (nxE (ex.drop i) 44), .int .i64 ((i : Int) - 1)], noSlots) ∧ i ≤ ex.length ∧ k = i) ex.length ⟨ex.length, by rw [List.drop_eq_nil_of_le (Nat.le_refl _)]; rfl, Nat.le_refl _, rfl⟩ ?_
  rintro k q ⟨i, rfl, hi, rfl⟩
  simp only [go_sem, ↓reduceIte, reduceCtorEq, upd_ne, back_new (no_at), Nat.reduceAdd, Nat.reduceEqDiff, Nat.reduceMul, Nat.reduceSub, Nat.reduceLeDiff, Nat.reduceLT, Int.reduceToNat, Int.reduceLE, Int.reduceLT, Int.reduceEq, UInt8.reduceOfNat]
  refine nxt_ite (fun h => ?_) (fun h => ?_)
  · obtain ⟨j, rfl⟩ : ∃ j, k = j + 1 := ⟨k - 1, by omega⟩
    have hlt : j < ex.length := by omega
    obtain ⟨e, he⟩ : ∃ e, ex[j]? = some e := ⟨ex[j], by simp [hlt]⟩
    have hd := drop_ex he
    have hem := List.mem_of_getElem? he
    have heb := hfb e hem
    have hnr := nxE_rg (p := 44) (kB_drop (i := j + 1) hkb) hNr
    have hxl := exB_len (ex.drop (j + 1)) 44 B
    have hsz := szE_drop ex (j + 1)
    have hsz2 := szE_drop ex j
    rw [hd] at hsz2
    simp only [szE] at hsz2
    have j1 : ((j + 1 : Nat) : Int) - 1 = (j : Int) := by omega
    have j2 : IntKind.i64.wrap ((j : Int) - 1) = (j : Int) - 1 := wrap_id (by omega) (by omega)
    have j3 : IntKind.i64.wrap (Int.tdiv (e.2.length : Int) 8) = ((e.2.length / 8 : Nat) : Int) := by
      rw [show Int.tdiv (e.2.length : Int) 8 = ((e.2.length / 8 : Nat) : Int) from rfl, wrap_id (by omega) (by omega)]
    have c1 := ev_b61 hS (n + 1) (x := nxE (ex.drop (j + 1)) 44) (by omega) (by omega)
    have c2 := ev_b61 hS (n + 1) (x := ((e.2.length / 8 : Nat) : Int)) (by omega) (by omega)
    have m1 : 2 + e.2.length ≤ maxStr := m0 _ (by omega)
    have m3 : 2 + (e.2.length + (szE (ex.drop (j + 1)) + B.length)) ≤ maxStr := m0 _ (by omega)
    have m5 : 2 + e.2.length + (szE (ex.drop (j + 1)) + B.length) ≤ maxStr := m0 _ (by omega)
    have m9 : 1 + (1 + e.2.length) ≤ maxStr := m0 _ (by omega)
    have m10 : 1 + (1 + (e.2.length + (szE (ex.drop (j + 1)) + B.length))) ≤ maxStr := m0 _ (by omega)
    have m11 : 1 + (1 + e.2.length) + (szE (ex.drop (j + 1)) + B.length) ≤ maxStr := m0 _ (by omega)
    simp only [Int.toNat_natCast] at c2
    simp only [go_sem, ↓reduceIte, reduceCtorEq, upd_ne, back_new (no_at), Nat.reduceAdd, Nat.reduceEqDiff, Nat.reduceMul, Nat.reduceSub, Nat.reduceLeDiff, Nat.reduceLT, Int.reduceToNat, Int.reduceLE, Int.reduceLT, Int.reduceEq, UInt8.reduceOfNat, List.getElem?_map, Int.toNat_natCast, ↓e_sadd, he, j1, j2, j3, c1, c2, hl, hxl, m1, m2, m3, m5, m9, m10, m11, List.append_assoc, List.length_append]
    exact ⟨j, by omega, j, by rw [hd]; rfl, by omega, rfl⟩
  · obtain rfl : k = 0 := by omega
    rw [List.drop_zero]
    have hxl := exB_len ex 44 B
    have hnr := nxE_rg (p := 44) hkb hNr
    have c1 := ev_b61 hS (n + 1) (x := nxE ex 44) (by omega) (by omega)
    have c2 := ev_b62 hS (n + 1) (x := ((szE ex + B.length : Nat) : Int)) (by omega) (by omega)
    simp only [Int.toNat_natCast] at c2 b5
    have m1 : 40 + (szE ex + B.length) ≤ maxStr := m0 _ (by omega)
    have m3 : 4 + (2 + (1 + (1 + (16 + (16 + (szE ex + B.length)))))) ≤ maxStr := m0 _ (by omega)
    have m5 : 4 + (2 + (1 + (1 + 16))) ≤ maxStr := m0 _ (by omega)
    have m9 : 4 + (2 + (1 + (1 + (16 + 16)))) ≤ maxStr := m0 _ (by omega)
    simp only [go_sem, ↓reduceIte, reduceCtorEq, upd_ne, back_new (no_at), Nat.reduceAdd, Nat.reduceEqDiff, Nat.reduceMul, Nat.reduceSub, Nat.reduceLeDiff, Nat.reduceLT, Int.reduceToNat, Int.reduceLE, Int.reduceLT, Int.reduceEq, UInt8.reduceOfNat, List.getElem?_map, Int.toNat_natCast, ↓e_sadd, Nxt, exIf, hfr, hto, ht1, ht2, toBytes_byteLV, b4, b5, c1, c2, w4, w5, w6, hl, hxl, m1, m2, m3, m4, m5, m6, m7, m8, m9, m24, m40, List.append_assoc, List.length_append, Int.toNat_natCast]
theorem ev_bytes6_tf {cl fl ho : Int} {fr to : List UInt8} {ex : List (Int × List UInt8)} {id at' : Int} {pt : Int} {da : List UInt8} (hf : FitIp6 cl fl ho fr to ex id at' pt da) (c : why6 cl fl ho ex true id at' false pt da = 0) :
    S.ev (n + 4) id_ip6_Bytes [ip6LV cl fl ho fr to (extsLV ex) true id at' false pt da] none = some (.tup [.str (by6 cl fl ho fr to ex true id at' false pt da), .nili], none) := by
  rw [Sys.step hS.h_ip6_Bytes, F_ip6_Bytes_eq]
  unfold F_ip6_Bytes
  have hfr := hf.hfr
  have hto := hf.hto
  have hw := ev_why6 hS n (cl := cl) (fl := fl) (ho := ho) (fr := fr) (to := to) (ex := ex) (fg := true) (id := id) (at' := at') (mo := false) (pt := pt) (da := da) hfr hto hf.hex (fun e he => (hf.hexs e he).2) hf.hda
  rw [c] at hw
  have ok := why6_zero.1 c
  obtain ⟨⟨⟨a1, a2⟩, ⟨a3, a4⟩, ⟨a5, a6⟩, ⟨a7, a8⟩, ⟨a9, a10⟩, a11⟩, ok2, ok3, ok4, ok5, ok6⟩ := ok
  have hkb := ok2.1
  have hfb := fB_le ex true ok3.1
  have hid := hf.hid
  (try simp only [guard_merge, or_merge, and_merge, or_pick, and_pick, guard_or, guard_and]); simp only [to_ob]
  unfold by6 bd6
  simp only [Bool.false_eq_true, if_true, if_false]
  unfold bh6 at ok6
  simp only [Bool.false_eq_true, if_true, if_false] at ok6
  have b1 := ev_b61 hS (n + 1) (x := pt) (by omega) (by omega)
  have b2 := ev_b62 hS (n + 1) (x := at') (by omega) (by omega)
  have b3 := ev_b64 hS (n + 1) (x := id) (by omega) (by omega)
  have b4 := ev_b61 hS (n + 1) (x := ho) (by omega) (by omega)
  obtain ⟨cl, rfl⟩ := Int.eq_ofNat_of_zero_le a1
  obtain ⟨fl, rfl⟩ := Int.eq_ofNat_of_zero_le a3
  have b5 := ev_b64 hS (n + 1) (x := ((1610612736 + cl * 1048576 + fl : Nat) : Int)) (by omega) (by omega)
  have w1 : IntKind.i64.wrap id = id := wrap_id (by omega) (by omega)
  have w2 : IntKind.i64.wrap (at' + 1) = at' + 1 := wrap_id (by omega) (by omega)
  have w3 : IntKind.i64.wrap ((ex.length : Int) - 1) = (ex.length : Int) - 1 := wrap_id (by omega) (by omega)
  have w4 : IntKind.i64.wrap ((cl : Int) * 2 ^ min 20 64) = ((cl * 1048576 : Nat) : Int) := by rw [show min 20 64 = 20 from rfl, wrap_id (by omega) (by omega)]; omega
  have w5 : bitsOf .or .i64 1610612736 ((cl * 1048576 : Nat) : Int) = ((1610612736 + cl * 1048576 : Nat) : Int) := by
    rw [show (1610612736 : Int) = ((1610612736 : Nat) : Int) from rfl, bits_or_nat (by decide) (by simp [IntKind.max, IntKind.signed, IntKind.bits]; omega), or6a (by omega)]
  have w6 : bitsOf .or .i64 ((1610612736 + cl * 1048576 : Nat) : Int) (fl : Int) = ((1610612736 + cl * 1048576 + fl : Nat) : Int) := by
    rw [bits_or_nat (by simp [IntKind.max, IntKind.signed, IntKind.bits]; omega) (by simp [IntKind.max, IntKind.signed, IntKind.bits]; omega), or6b (by omega) (by omega)]
  have hl := beB_len
  have m0 : ∀ k : Nat, k ≤ 1000000 → k ≤ maxStr := fun k h => by unfold maxStr; omega
  have m2 : 2 ≤ maxStr := m0 _ (by decide)
  have m4 : 4 ≤ maxStr := m0 _ (by decide)
  have m6 : 6 ≤ maxStr := m0 _ (by decide)
  have m7 : 7 ≤ maxStr := m0 _ (by decide)
  have m8 : 8 ≤ maxStr := m0 _ (by decide)
  have m24 : 24 ≤ maxStr := m0 _ (by decide)
  have m40 : 40 ≤ maxStr := m0 _ (by decide)
  have mda : 8 + da.length ≤ maxStr := m0 _ (by omega)
  have ht1 : fr.take 16 = fr := List.take_of_length_le (by omega)
  have ht2 : to.take 16 = to := List.take_of_length_le (by omega)
  simp only [go_sem, ↓reduceIte, reduceCtorEq, upd_ne, back_new (no_at), Nat.reduceAdd, Nat.reduceEqDiff, Nat.reduceMul, Nat.reduceSub, Nat.reduceLeDiff, Nat.reduceLT, Int.reduceToNat, Int.reduceLE, Int.reduceLT, Int.reduceEq, UInt8.reduceOfNat, List.getElem?_map, Int.toNat_natCast, ↓e_sadd, hw, c, hfr, hto, b1, b2, b3, w1, w2, w3, hl, m2, m4, m6, m7, m8, mda, List.append_assoc, List.length_append, List.length_map]
  generalize hB : pcB id at' false pt da = B at *
  rw [show beB 1 pt.toNat ++ (0 :: (beB 2 at'.toNat ++ (beB 4 id.toNat ++ da))) = B by rw [← hB]; unfold pcB; rw [if_neg Bool.false_ne_true, Nat.add_zero]]
  have hBl : B.length ≤ 65535 := by rw [← hB]; unfold pcB; simp only [List.length_append, List.length_cons, beB_len]; omega
  have hBs : szE ex + B.length ≤ 65535 := by rw [← hB]; unfold pcB; simp only [List.length_append, List.length_cons, beB_len]; omega
  have hNr : 0 ≤ (44 : Int) ∧ (44 : Int) ≤ 255 := by omega
  refine while_rule (fun k q => ∃ i : Nat, q = ([.str (exB (ex.drop i) 44 B), .int .i64 (nxE (ex.drop i) 44), .int .i64 ((i : Int) - 1)], noSlots) ∧ i ≤ ex.length ∧ k = i) ex.length ⟨ex.length, by rw [List.drop_eq_nil_of_le (Nat.le_refl _)]; rfl, Nat.le_refl _, rfl⟩ ?_
  rintro k q ⟨i, rfl, hi, rfl⟩
  simp only [go_sem, ↓reduceIte, reduceCtorEq, upd_ne, back_new (no_at), Nat.reduceAdd, Nat.reduceEqDiff, Nat.reduceMul, Nat.reduceSub, Nat.reduceLeDiff, Nat.reduceLT, Int.reduceToNat, Int.reduceLE, Int.reduceLT, Int.reduceEq, UInt8.reduceOfNat]
  refine nxt_ite (fun h => ?_) (fun h => ?_)
  · obtain ⟨j, rfl⟩ : ∃ j, k = j + 1 := ⟨k - 1, by omega⟩
    have hlt : j < ex.length := by omega
    obtain ⟨e, he⟩ : ∃ e, ex[j]? = some e := ⟨ex[j], by simp [hlt]⟩
    have hd := drop_ex he
    have hem := List.mem_of_getElem? he
    have heb := hfb e hem
    have hnr := nxE_rg (p := 44) (kB_drop (i := j + 1) hkb) hNr
    have hxl := exB_len (ex.drop (j + 1)) 44 B
    have hsz := szE_drop ex (j + 1)
    have hsz2 := szE_drop ex j
    rw [hd] at hsz2
    simp only [szE] at hsz2
    have j1 : ((j + 1 : Nat) : Int) - 1 = (j : Int) := by omega
    have j2 : IntKind.i64.wrap ((j : Int) - 1) = (j : Int) - 1 := wrap_id (by omega) (by omega)
    have j3 : IntKind.i64.wrap (Int.tdiv (e.2.length : Int) 8) = ((e.2.length / 8 : Nat) : Int) := by
      rw [show Int.tdiv (e.2.length : Int) 8 = ((e.2.length / 8 : Nat) : Int) from rfl, wrap_id (by omega) (by omega)]
    have c1 := ev_b61 hS (n + 1) (x := nxE (ex.drop (j + 1)) 44) (by omega) (by omega)
    have c2 := ev_b61 hS (n + 1) (x := ((e.2.length / 8 : Nat) : Int)) (by omega) (by omega)
    have m1 : 2 + e.2.length ≤ maxStr := m0 _ (by omega)
    have m3 : 2 + (e.2.length + (szE (ex.drop (j + 1)) + B.length)) ≤ maxStr := m0 _ (by omega)
    have m5 : 2 + e.2.length + (szE (ex.drop (j + 1)) + B.length) ≤ maxStr := m0 _ (by omega)
    have m9 : 1 + (1 + e.2.length) ≤ maxStr := m0 _ (by omega)
    have m10 : 1 + (1 + (e.2.length + (szE (ex.drop (j + 1)) + B.length))) ≤ maxStr := m0 _ (by omega)
    have m11 : 1 + (1 + e.2.length) + (szE (ex.drop (j + 1)) + B.length) ≤ maxStr := m0 _ (by omega)
    simp only [Int.toNat_natCast] at c2
    simp only [go_sem, ↓reduceIte, reduceCtorEq, upd_ne, back_new (no_at), Nat.reduceAdd, Nat.reduceEqDiff, Nat.reduceMul, Nat.reduceSub, Nat.reduceLeDiff, Nat.reduceLT, Int.reduceToNat, Int.reduceLE, Int.reduceLT, Int.reduceEq, UInt8.reduceOfNat, List.getElem?_map, Int.toNat_natCast, ↓e_sadd, he, j1, j2, j3, c1, c2, hl, hxl, m1, m2, m3, m5, m9, m10, m11, List.append_assoc, List.length_append]
    exact ⟨j, by omega, j, by rw [hd]; rfl, by omega, rfl⟩
  · obtain rfl : k = 0 := by omega
    rw [List.drop_zero]
    have hxl := exB_len ex 44 B
    have hnr := nxE_rg (p := 44) hkb hNr
    have c1 := ev_b61 hS (n + 1) (x := nxE ex 44) (by omega) (by omega)
    have c2 := ev_b62 hS (n + 1) (x := ((szE ex + B.length : Nat) : Int)) (by omega) (by omega)
    simp only [Int.toNat_natCast] at c2 b5
    have m1 : 40 + (szE ex + B.length) ≤ maxStr := m0 _ (by omega)
    have m3 : 4 + (2 + (1 + (1 + (16 + (16 + (szE ex + B.length)))))) ≤ maxStr := m0 _ (by omega)
    have m5 : 4 + (2 + (1 + (1 + 16))) ≤ maxStr := m0 _ (by omega)
    have m9 : 4 + (2 + (1 + (1 + (16 + 16)))) ≤ maxStr := m0 _ (by omega)
    simp only [go_sem, ↓reduceIte, reduceCtorEq, upd_ne, back_new (no_at), Nat.reduceAdd, Nat.reduceEqDiff, Nat.reduceMul, Nat.reduceSub, Nat.reduceLeDiff, Nat.reduceLT, Int.reduceToNat, Int.reduceLE, Int.reduceLT, Int.reduceEq, UInt8.reduceOfNat, List.getElem?_map, Int.toNat_natCast, ↓e_sadd, Nxt, exIf, hfr, hto, ht1, ht2, toBytes_byteLV, b4, b5, c1, c2, w4, w5, w6, hl, hxl, m1, m2, m3, m4, m5, m6, m7, m8, m9, m24, m40, List.append_assoc, List.length_append, Int.toNat_natCast]
theorem ev_bytes6_n {cl fl ho : Int} {fr to : List UInt8} {ex : List (Int × List UInt8)} {id at' : Int} {mo : Bool} {pt : Int} {da : List UInt8} (hf : FitIp6 cl fl ho fr to ex id at' pt da) (c : why6 cl fl ho ex false id at' mo pt da = 0) :
    S.ev (n + 4) id_ip6_Bytes [ip6LV cl fl ho fr to (extsLV ex) false id at' mo pt da] none = some (.tup [.str (by6 cl fl ho fr to ex false id at' mo pt da), .nili], none) := by
  rw [Sys.step hS.h_ip6_Bytes, F_ip6_Bytes_eq]
  unfold F_ip6_Bytes
  have hfr := hf.hfr
  have hto := hf.hto
  have hw := ev_why6 hS n (cl := cl) (fl := fl) (ho := ho) (fr := fr) (to := to) (ex := ex) (fg := false) (id := id) (at' := at') (mo := mo) (pt := pt) (da := da) hfr hto hf.hex (fun e he => (hf.hexs e he).2) hf.hda
  rw [c] at hw
  have ok := why6_zero.1 c
  obtain ⟨⟨⟨a1, a2⟩, ⟨a3, a4⟩, ⟨a5, a6⟩, ⟨a7, a8⟩, ⟨a9, a10⟩, a11⟩, ok2, ok3, ok4, ok5, ok6⟩ := ok
  have hkb := ok2.1
  have hfb := fB_le ex true ok3.1
  have hid := hf.hid
  (try simp only [guard_merge, or_merge, and_merge, or_pick, and_pick, guard_or, guard_and]); simp only [to_ob]
  unfold by6 bd6
  simp only [Bool.false_eq_true, if_true, if_false]
  unfold bh6 at ok6
  simp only [Bool.false_eq_true, if_true, if_false] at ok6
  have b1 := ev_b61 hS (n + 1) (x := pt) (by omega) (by omega)
  have b2 := ev_b62 hS (n + 1) (x := at') (by omega) (by omega)
  have b3 := ev_b64 hS (n + 1) (x := id) (by omega) (by omega)
  have b4 := ev_b61 hS (n + 1) (x := ho) (by omega) (by omega)
  obtain ⟨cl, rfl⟩ := Int.eq_ofNat_of_zero_le a1
  obtain ⟨fl, rfl⟩ := Int.eq_ofNat_of_zero_le a3
  have b5 := ev_b64 hS (n + 1) (x := ((1610612736 + cl * 1048576 + fl : Nat) : Int)) (by omega) (by omega)
  have w1 : IntKind.i64.wrap id = id := wrap_id (by omega) (by omega)
  have w2 : IntKind.i64.wrap (at' + 1) = at' + 1 := wrap_id (by omega) (by omega)
  have w3 : IntKind.i64.wrap ((ex.length : Int) - 1) = (ex.length : Int) - 1 := wrap_id (by omega) (by omega)
  have w4 : IntKind.i64.wrap ((cl : Int) * 2 ^ min 20 64) = ((cl * 1048576 : Nat) : Int) := by rw [show min 20 64 = 20 from rfl, wrap_id (by omega) (by omega)]; omega
  have w5 : bitsOf .or .i64 1610612736 ((cl * 1048576 : Nat) : Int) = ((1610612736 + cl * 1048576 : Nat) : Int) := by
    rw [show (1610612736 : Int) = ((1610612736 : Nat) : Int) from rfl, bits_or_nat (by decide) (by simp [IntKind.max, IntKind.signed, IntKind.bits]; omega), or6a (by omega)]
  have w6 : bitsOf .or .i64 ((1610612736 + cl * 1048576 : Nat) : Int) (fl : Int) = ((1610612736 + cl * 1048576 + fl : Nat) : Int) := by
    rw [bits_or_nat (by simp [IntKind.max, IntKind.signed, IntKind.bits]; omega) (by simp [IntKind.max, IntKind.signed, IntKind.bits]; omega), or6b (by omega) (by omega)]
  have hl := beB_len
  have m0 : ∀ k : Nat, k ≤ 1000000 → k ≤ maxStr := fun k h => by unfold maxStr; omega
  have m2 : 2 ≤ maxStr := m0 _ (by decide)
  have m4 : 4 ≤ maxStr := m0 _ (by decide)
  have m6 : 6 ≤ maxStr := m0 _ (by decide)
  have m7 : 7 ≤ maxStr := m0 _ (by decide)
  have m8 : 8 ≤ maxStr := m0 _ (by decide)
  have m24 : 24 ≤ maxStr := m0 _ (by decide)
  have m40 : 40 ≤ maxStr := m0 _ (by decide)
  have mda : 8 + da.length ≤ maxStr := m0 _ (by omega)
  have ht1 : fr.take 16 = fr := List.take_of_length_le (by omega)
  have ht2 : to.take 16 = to := List.take_of_length_le (by omega)
  simp only [go_sem, ↓reduceIte, reduceCtorEq, upd_ne, back_new (no_at), Nat.reduceAdd, Nat.reduceEqDiff, Nat.reduceMul, Nat.reduceSub, Nat.reduceLeDiff, Nat.reduceLT, Int.reduceToNat, Int.reduceLE, Int.reduceLT, Int.reduceEq, UInt8.reduceOfNat, List.getElem?_map, Int.toNat_natCast, ↓e_sadd, hw, c, hfr, hto, w3, List.length_map]
  generalize hB : da = B at *
  have hBl : B.length ≤ 65535 := by omega
  have hBs : szE ex + B.length ≤ 65535 := by omega
  have hNr : 0 ≤ (pt : Int) ∧ (pt : Int) ≤ 255 := by omega
  refine while_rule (fun k q => ∃ i : Nat, q = ([.str (exB (ex.drop i) pt B), .int .i64 (nxE (ex.drop i) pt), .int .i64 ((i : Int) - 1)], noSlots) ∧ i ≤ ex.length ∧ k = i) ex.length ⟨ex.length, by rw [List.drop_eq_nil_of_le (Nat.le_refl _)]; rfl, Nat.le_refl _, rfl⟩ ?_
  rintro k q ⟨i, rfl, hi, rfl⟩
  simp only [go_sem, ↓reduceIte, reduceCtorEq, upd_ne, back_new (no_at), Nat.reduceAdd, Nat.reduceEqDiff, Nat.reduceMul, Nat.reduceSub, Nat.reduceLeDiff, Nat.reduceLT, Int.reduceToNat, Int.reduceLE, Int.reduceLT, Int.reduceEq, UInt8.reduceOfNat]
  refine nxt_ite (fun h => ?_) (fun h => ?_)
  · obtain ⟨j, rfl⟩ : ∃ j, k = j + 1 := ⟨k - 1, by omega⟩
    have hlt : j < ex.length := by omega
    obtain ⟨e, he⟩ : ∃ e, ex[j]? = some e := ⟨ex[j], by simp [hlt]⟩
    have hd := drop_ex he
    have hem := List.mem_of_getElem? he
    have heb := hfb e hem
    have hnr := nxE_rg (p := pt) (kB_drop (i := j + 1) hkb) hNr
    have hxl := exB_len (ex.drop (j + 1)) pt B
    have hsz := szE_drop ex (j + 1)
    have hsz2 := szE_drop ex j
    rw [hd] at hsz2
    simp only [szE] at hsz2
    have j1 : ((j + 1 : Nat) : Int) - 1 = (j : Int) := by omega
    have j2 : IntKind.i64.wrap ((j : Int) - 1) = (j : Int) - 1 := wrap_id (by omega) (by omega)
    have j3 : IntKind.i64.wrap (Int.tdiv (e.2.length : Int) 8) = ((e.2.length / 8 : Nat) : Int) := by
      rw [show Int.tdiv (e.2.length : Int) 8 = ((e.2.length / 8 : Nat) : Int) from rfl, wrap_id (by omega) (by omega)]
    have c1 := ev_b61 hS (n + 1) (x := nxE (ex.drop (j + 1)) pt) (by omega) (by omega)
    have c2 := ev_b61 hS (n + 1) (x := ((e.2.length / 8 : Nat) : Int)) (by omega) (by omega)
    have m1 : 2 + e.2.length ≤ maxStr := m0 _ (by omega)
    have m3 : 2 + (e.2.length + (szE (ex.drop (j + 1)) + B.length)) ≤ maxStr := m0 _ (by omega)
    have m5 : 2 + e.2.length + (szE (ex.drop (j + 1)) + B.length) ≤ maxStr := m0 _ (by omega)
    have m9 : 1 + (1 + e.2.length) ≤ maxStr := m0 _ (by omega)
    have m10 : 1 + (1 + (e.2.length + (szE (ex.drop (j + 1)) + B.length))) ≤ maxStr := m0 _ (by omega)
    have m11 : 1 + (1 + e.2.length) + (szE (ex.drop (j + 1)) + B.length) ≤ maxStr := m0 _ (by omega)
    simp only [Int.toNat_natCast] at c2
    simp only [go_sem, ↓reduceIte, reduceCtorEq, upd_ne, back_new (no_at), Nat.reduceAdd, Nat.reduceEqDiff, Nat.reduceMul, Nat.reduceSub, Nat.reduceLeDiff, Nat.reduceLT, Int.reduceToNat, Int.reduceLE, Int.reduceLT, Int.reduceEq, UInt8.reduceOfNat, List.getElem?_map, Int.toNat_natCast, ↓e_sadd, he, j1, j2, j3, c1, c2, hl, hxl, m1, m2, m3, m5, m9, m10, m11, List.append_assoc, List.length_append]
    exact ⟨j, by omega, j, by rw [hd]; rfl, by omega, rfl⟩
  · obtain rfl : k = 0 := by omega
    rw [List.drop_zero]
    have hxl := exB_len ex pt B
    have hnr := nxE_rg (p := pt) hkb hNr
    have c1 := ev_b61 hS (n + 1) (x := nxE ex pt) (by omega) (by omega)
    have c2 := ev_b62 hS (n + 1) (x := ((szE ex + B.length : Nat) : Int)) (by omega) (by omega)
    simp only [Int.toNat_natCast] at c2 b5
    have m1 : 40 + (szE ex + B.length) ≤ maxStr := m0 _ (by omega)
    have m3 : 4 + (2 + (1 + (1 + (16 + (16 + (szE ex + B.length)))))) ≤ maxStr := m0 _ (by omega)
    have m5 : 4 + (2 + (1 + (1 + 16))) ≤ maxStr := m0 _ (by omega)
    have m9 : 4 + (2 + (1 + (1 + (16 + 16)))) ≤ maxStr := m0 _ (by omega)
    simp only [go_sem, ↓reduceIte, reduceCtorEq, upd_ne, back_new (no_at), Nat.reduceAdd, Nat.reduceEqDiff, Nat.reduceMul, Nat.reduceSub, Nat.reduceLeDiff, Nat.reduceLT, Int.reduceToNat, Int.reduceLE, Int.reduceLT, Int.reduceEq, UInt8.reduceOfNat, List.getElem?_map, Int.toNat_natCast, ↓e_sadd, Nxt, exIf, hfr, hto, ht1, ht2, toBytes_byteLV, b4, b5, c1, c2, w4, w5, w6, hl, hxl, m1, m2, m3, m4, m5, m6, m7, m8, m9, m24, m40, List.append_assoc, List.length_append, Int.toNat_natCast]
theorem ev_bytes6 {cl fl ho : Int} {fr to : List UInt8} {ex : List (Int × List UInt8)} {fg : Bool} {id at' : Int} {mo : Bool} {pt : Int} {da : List UInt8} (hf : FitIp6 cl fl ho fr to ex id at' pt da) :
    S.ev (n + 4) id_ip6_Bytes [ip6LV cl fl ho fr to (extsLV ex) fg id at' mo pt da] none = some (.tup [.str (by6R cl fl ho fr to ex fg id at' mo pt da), fE (why6 cl fl ho ex fg id at' mo pt da)], none) := by
  unfold by6R
  by_cases c : why6 cl fl ho ex fg id at' mo pt da = 0
  · rw [if_pos c, c]
    cases fg
    · exact ev_bytes6_n hS n hf c
    · cases mo
      · exact ev_bytes6_tf hS n hf c
      · exact ev_bytes6_tt hS n hf c
  · rw [if_neg c, Sys.step hS.h_ip6_Bytes, F_ip6_Bytes_eq]
    unfold F_ip6_Bytes
    have hfr := hf.hfr
    have hto := hf.hto
    have hw := ev_why6 hS n (cl := cl) (fl := fl) (ho := ho) (fr := fr) (to := to) (ex := ex) (fg := fg) (id := id) (at' := at') (mo := mo) (pt := pt) (da := da) hfr hto hf.hex (fun e he => (hf.hexs e he).2) hf.hda
    have hfa := ev_fault6 hS (n + 2)
    (try simp only [guard_merge, or_merge, and_merge, or_pick, and_pick, guard_or, guard_and]); simp only [to_ob]
    simp only [go_sem, ↓reduceIte, reduceCtorEq, upd_ne, back_new (no_at), Nat.reduceAdd, Nat.reduceEqDiff, Nat.reduceMul, Nat.reduceSub, Nat.reduceLeDiff, Nat.reduceLT, Int.reduceToNat, Int.reduceLE, Int.reduceLT, Int.reduceEq, UInt8.reduceOfNat, hw, hfa, c, hfr, hto, fE]
end
end Go.Ev

/- Layer 4, the document's: bytes parsed. -/
namespace Go.Ev
set_option linter.unusedSimpArgs false
set_option linter.unusedVariables false
set_option maxRecDepth 4000
set_option maxHeartbeats 8000000
theorem chC_rest : ∀ (k : Nat) (f : Bool) (nx : Int) (u : List UInt8), (chC k f nx u).2.2.2.length ≤ u.length
  | 0, f, nx, u => by unfold chC; split <;> (try split) <;> simp
  | k + 1, f, nx, u => by
    unfold chC
    split
    · split
      · simp
      · split
        · simp
        · have := chC_rest k false ((bAt u 0 : Nat) : Int) (u.drop (sz6 u))
          rw [List.length_drop] at this
          simp only
          split <;> (try simp only) <;> omega
    · simp
theorem chC_len : ∀ (k : Nat) (f : Bool) (nx : Int) (u : List UInt8), (chC k f nx u).2.1.length ≤ k
  | 0, f, nx, u => by unfold chC; split <;> (try split) <;> simp
  | k + 1, f, nx, u => by
    unfold chC
    split
    · split
      · simp
      · split
        · simp
        · have := chC_len k false ((bAt u 0 : Nat) : Int) (u.drop (sz6 u))
          simp only
          split <;> (try simp only [List.length_cons]) <;> omega
    · simp
section
variable {S : Sys} (hS : Has S) (n : Nat)
include hS
theorem ev_rparse6 (s : List UInt8) (hs : s.length ≤ 1000000) : S.ev (n + 4) id_interpreterref04_Parse [.str s] none = some (.tup [pLV6 s, .int .i64 (pK6 s)], none) := by
  rw [Sys.step hS.h_interpreterref04_Parse, F_interpreterref04_Parse_eq]
  unfold F_interpreterref04_Parse
  (try simp only [guard_merge, or_merge, and_merge, or_pick, and_pick, guard_or, guard_and]); simp only [to_ob]
  unfold pLV6 pK6
  by_cases c1 : s.length < 40
  · have c1' : (s.length : Int) < 40 := by omega
    simp only [go_sem, ↓reduceIte, reduceCtorEq, upd_ne, back_new (no_at), Nat.reduceAdd, Nat.reduceEqDiff, Nat.reduceMul, Nat.reduceSub, Nat.reduceLeDiff, Nat.reduceLT, Int.reduceToNat, Int.reduceLE, Int.reduceLT, Int.reduceEq, UInt8.reduceOfNat, c1, c1']
  · have c1' : ¬ (s.length : Int) < 40 := by omega
    have g0 := get_def (s := s) (i := 0) (by omega)
    have hb0 := bAt_le s 0
    have e4 : IntKind.u8.wrap (Int.tdiv ((s.getD 0 0).toNat : Int) 16) = ((bAt s 0 / 16 : Nat) : Int) := by
      rw [show Int.tdiv ((s.getD 0 0).toNat : Int) 16 = ((bAt s 0 / 16 : Nat) : Int) from rfl, u8_wrap]; congr 1; omega
    by_cases c2 : bAt s 0 / 16 ≠ 6
    · have c2' : ¬ ((bAt s 0 / 16 : Nat) : Int) = 6 := by omega
      simp only [go_sem, ↓reduceIte, reduceCtorEq, upd_ne, back_new (no_at), Nat.reduceAdd, Nat.reduceEqDiff, Nat.reduceMul, Nat.reduceSub, Nat.reduceLeDiff, Nat.reduceLT, Int.reduceToNat, Int.reduceLE, Int.reduceLT, Int.reduceEq, UInt8.reduceOfNat, List.getElem?_map, Int.toNat_natCast, c1, c1', c2, c2', g0, byteLV, e4]
    · have c2' : ((bAt s 0 / 16 : Nat) : Int) = 6 := by omega
      have g6 := get_def (s := s) (i := 6) (by omega)
      have g7 := get_def (s := s) (i := 7) (by omega)
      have hb6 := bAt_le s 6
      have hb7 := bAt_le s 7
      have hw4 := wAt_le s 4
      have q4 : S.ev (n + 3) id_interpreterref04_number [.str s, .int .i64 4, .int .i64 2] none = some (.int .i64 ((wAt s 4 : Nat) : Int), none) := by
        rw [← numN_two (by omega)]; exact ev_number6 hS n s 4 2 (by omega) (by omega) (by omega)
      have q5 : IntKind.i64.wrap (40 + ((wAt s 4 : Nat) : Int)) = ((40 + wAt s 4 : Nat) : Int) := by rw [wrap_id (by omega) (by omega)]; omega
      have q6 : IntKind.i64.wrap ((s.getD 6 0).toNat : Int) = ((bAt s 6 : Nat) : Int) := wrap_id (by omega) (by unfold bAt at hb6; omega)
      have q7 : IntKind.i64.wrap ((s.getD 7 0).toNat : Int) = ((bAt s 7 : Nat) : Int) := wrap_id (by omega) (by unfold bAt at hb7; omega)
      by_cases c3 : s.length < 40 + wAt s 4
      · have c3' : (s.length : Int) < ((40 + wAt s 4 : Nat) : Int) := by omega
        simp only [go_sem, ↓reduceIte, reduceCtorEq, upd_ne, back_new (no_at), Nat.reduceAdd, Nat.reduceEqDiff, Nat.reduceMul, Nat.reduceSub, Nat.reduceLeDiff, Nat.reduceLT, Int.reduceToNat, Int.reduceLE, Int.reduceLT, Int.reduceEq, UInt8.reduceOfNat, List.getElem?_map, Int.toNat_natCast, c1, c1', c2, c2', c3, c3', g0, byteLV, e4, q4, q5]
      · have c3' : ¬ (s.length : Int) < ((40 + wAt s 4 : Nat) : Int) := by omega
        have hU : S.ev (n + 3) id_interpreterref04_number [.str s, .int .i64 0, .int .i64 4] none = some (.int .i64 ((numN (s.take 4) : Nat) : Int), none) := by
          have := ev_number6 hS n s 0 4 (by omega) (by omega) (by omega)
          rw [List.drop_zero] at this
          exact this
        have hx := num4_lt s
        have d1 : IntKind.i64.wrap (Int.tdiv ((numN (s.take 4) : Nat) : Int) 1048576) = ((numN (s.take 4) / 1048576 : Nat) : Int) := by
          rw [show Int.tdiv ((numN (s.take 4) : Nat) : Int) 1048576 = ((numN (s.take 4) / 1048576 : Nat) : Int) from rfl, wrap_id (by omega) (by omega)]
        have d2 : Int.tmod ((numN (s.take 4) / 1048576 : Nat) : Int) 256 = pcl6 s := rfl
        have d3 : Int.tmod ((numN (s.take 4) : Nat) : Int) 1048576 = pfl6 s := rfl
        have hlf : (pfr6 s).length = 16 := by unfold pfr6; simp; omega
        have hlt : (pto6 s).length = 16 := by unfold pto6; simp; omega
        have l40 : 40 ≤ 40 + wAt s 4 := by omega
        have l41 : 40 + wAt s 4 ≤ s.length := by omega
        have l42 : 40 + wAt s 4 - 40 = wAt s 4 := by omega
        have hC : S.ev (n + 3) id_interpreterref04_Chain [.int .i64 ((bAt s 6 : Nat) : Int), .str ((s.drop 40).take (wAt s 4))] none = some (chLV' (k6 s), none) := ev_rchain6 hS (n + 2) _ _ (by rw [List.length_take]; omega)
        have hkl : (k6 s).2.2.2.length ≤ 65535 := Nat.le_trans (chC_rest _ _ _ _) (by rw [List.length_take]; omega)
        unfold chLV' at hC
        unfold mk6 kR6
        rcases hks : k6 s with ⟨kc, kl, kp, kr⟩
        rw [hks] at hC hkl
        try dsimp only at hC
        try dsimp only at hkl
        try dsimp only
        simp only [go_sem, ↓reduceIte, reduceCtorEq, upd_ne, back_new (no_at), Nat.reduceAdd, Nat.reduceEqDiff, Nat.reduceMul, Nat.reduceSub, Nat.reduceLeDiff, Nat.reduceLT, Int.reduceToNat, Int.reduceLE, Int.reduceLT, Int.reduceEq, UInt8.reduceOfNat, List.getElem?_map, Int.toNat_natCast, Nat.sub_zero, c1, c1', c2, c2', c3, c3', hU, g0, g6, g7, byteLV, e4, q4, q5, q6, q7, d1, d2, d3]
        refine while_rule (fun k q => ∃ i : Nat, i + k = 16 ∧ q = ([.int .i64 (i : Int)], upd (upd (upd noSlots 2 (.obj 1 (ip6LV 0 0 0 y16 y16 .nils false 0 0 false 0 []))) 4 (.obj 1 z6LV)) 7 (.obj 1 (ip6LV (pcl6 s) (pfl6 s) (bAt s 7 : Nat) ((pfr6 s).take i ++ List.replicate (16 - i) 0) ((pto6 s).take i ++ List.replicate (16 - i) 0) (.lst none []) false 0 0 false 0 [])))) 16 ⟨0, rfl, by simp⟩ ?_
        rintro k q ⟨i, hi, rfl⟩
        simp only [go_sem, ↓reduceIte, reduceCtorEq, upd_ne, back_new (no_at), Nat.reduceAdd, Nat.reduceEqDiff, Nat.reduceMul, Nat.reduceSub, Nat.reduceLeDiff, Nat.reduceLT, Int.reduceToNat, Int.reduceLE, Int.reduceLT, Int.reduceEq, UInt8.reduceOfNat]
        refine nxt_ite (fun h => ?_) (fun h => ?_)
        · have hi4 : i < 16 := by omega
          have ga := get_def (s := s) (i := 8 + i) (by omega)
          have gb := get_def (s := s) (i := 24 + i) (by omega)
          have i1 : IntKind.i64.wrap (8 + (i : Int)) = ((8 + i : Nat) : Int) := by rw [wrap_id (by omega) (by omega)]; omega
          have i2 : IntKind.i64.wrap (24 + (i : Int)) = ((24 + i : Nat) : Int) := by rw [wrap_id (by omega) (by omega)]; omega
          have i3 : IntKind.i64.wrap ((i : Int) + 1) = ((i + 1 : Nat) : Int) := by rw [wrap_id (by omega) (by omega)]; omega
          have hla : ((pfr6 s).take i ++ List.replicate (16 - i) 0).length = 16 := by rw [List.length_append, List.length_take, List.length_replicate]; omega
          have hlb : ((pto6 s).take i ++ List.replicate (16 - i) 0).length = 16 := by rw [List.length_append, List.length_take, List.length_replicate]; omega
          have hla2 : ((pfr6 s).take (i + 1) ++ List.replicate (16 - (i + 1)) 0).length = 16 := by rw [List.length_append, List.length_take, List.length_replicate]; omega
          obtain ⟨ca, hca⟩ : ∃ c0, ((pfr6 s).take i ++ List.replicate (16 - i) 0)[i]? = some c0 := ⟨_, List.getElem?_eq_getElem (by omega)⟩
          obtain ⟨cb, hcb⟩ : ∃ c0, ((pto6 s).take i ++ List.replicate (16 - i) 0)[i]? = some c0 := ⟨_, List.getElem?_eq_getElem (by omega)⟩
          have sa := set_mid hlf hi4 (sub_get (s := s) (a := 8) (m := 16) hi4 (by omega))
          have sb := set_mid hlt hi4 (sub_get (s := s) (a := 24) (m := 16) hi4 (by omega))
          simp only [go_sem, ↓reduceIte, reduceCtorEq, upd_ne, back_new (no_at), Nat.reduceAdd, Nat.reduceEqDiff, Nat.reduceMul, Nat.reduceSub, Nat.reduceLeDiff, Nat.reduceLT, Int.reduceToNat, Int.reduceLE, Int.reduceLT, Int.reduceEq, UInt8.reduceOfNat, List.getElem?_map, Int.toNat_natCast, ga, gb, i1, i2, i3, hla, hlb, hla2, hca, hcb, sa, sb, hi4, byteLV, u8_lt, UInt8.ofNat_toNat, Nat.mul_one, eq_self]
          exact ⟨k - 1, by omega, i + 1, by omega, rfl⟩
        · obtain rfl : i = 16 := by omega
          have ta : (pfr6 s).take 16 ++ List.replicate (16 - 16) 0 = pfr6 s := by rw [List.take_of_length_le (by omega)]; simp
          have tb : (pto6 s).take 16 ++ List.replicate (16 - 16) 0 = pto6 s := by rw [List.take_of_length_le (by omega)]; simp
          rw [ta, tb]
          by_cases c4 : kc = 0
          · subst c4
            by_cases c5 : kp = 44
            · subst c5
              by_cases c6 : kr.length < 8
              · have c6' : (kr.length : Int) < 8 := by omega
                simp only [go_sem, ↓reduceIte, reduceCtorEq, upd_ne, back_new (no_at), Nat.reduceAdd, Nat.reduceEqDiff, Nat.reduceMul, Nat.reduceSub, Nat.reduceLeDiff, Nat.reduceLT, Int.reduceToNat, Int.reduceLE, Int.reduceLT, Int.reduceEq, UInt8.reduceOfNat, List.getElem?_map, Int.toNat_natCast, Nxt, exIf, Nat.sub_zero, c6, c6', kF6, hC, g6, byteLV, q5, q6, hlf, hlt, l40, l41, l42, Nat.le_refl]
              · have c6' : ¬ (kr.length : Int) < 8 := by omega
                have h0 := get_def (s := kr) (i := 0) (by omega)
                have h3 := get_def (s := kr) (i := 3) (by omega)
                have i0 := bAt_le kr 0
                have i3 := (kr.getD 3 0).toNat_lt
                have hw2 := wAt_le kr 2
                have r1 : S.ev (n + 3) id_interpreterref04_number [.str kr, .int .i64 2, .int .i64 2] none = some (.int .i64 ((wAt kr 2 : Nat) : Int), none) := by
                  rw [← numN_two (by omega)]; exact ev_number6 hS n kr 2 2 (by omega) (by omega) (by omega)
                have r2 : S.ev (n + 3) id_interpreterref04_number [.str kr, .int .i64 4, .int .i64 4] none = some (.int .i64 ((fi6 kr : Nat) : Int), none) := ev_number6 hS n kr 4 4 (by omega) (by omega) (by omega)
                have r5 : IntKind.i64.wrap ((kr.getD 0 0).toNat : Int) = ((bAt kr 0 : Nat) : Int) := wrap_id (by omega) (by unfold bAt at i0; omega)
                have r6 : IntKind.i64.wrap (IntKind.i64.wrap (Int.tdiv ((wAt kr 2 : Nat) : Int) 8) * 8) = ((fa6 kr : Nat) : Int) := by
                  rw [show Int.tdiv ((wAt kr 2 : Nat) : Int) 8 = ((wAt kr 2 / 8 : Nat) : Int) from rfl, wrap_id (n := ((wAt kr 2 / 8 : Nat) : Int)) (by omega) (by omega), wrap_id (by omega) (by omega)]
                  unfold fa6; omega
                have r8 : (decide (Int.tmod ((kr.getD 3 0).toNat : Int) 2 = 1)) = fm6 kr := by
                  unfold fm6
                  rw [show Int.tmod ((kr.getD 3 0).toNat : Int) 2 = (((kr.getD 3 0).toNat % 2 : Nat) : Int) from rfl]
                  apply decide_eq_decide.2
                  show (((kr.getD 3 0).toNat % 2 : Nat) : Int) = 1 ↔ (256 * (kr.getD 2 0).toNat + (kr.getD 3 0).toNat) % 2 = 1
                  omega
                have hfi : fi6 kr < 4294967296 := num4_lt (kr.drop 4)
                have r9 : IntKind.u32.wrap ((fi6 kr : Nat) : Int) = ((fi6 kr : Nat) : Int) := wrap_u32 hfi
                have m8 : 8 ≤ kr.length := by omega
                have u8' : (kr.drop 8).take (kr.length - 8) = kr.drop 8 := List.take_of_length_le (by simp)
                have hfa6 : fa6 kr ≤ 65535 := by unfold fa6; omega
                have hdl : (kr.drop 8).length ≤ 65535 := by rw [List.length_drop]; omega
                have hok : okF6 (fm6 kr) (fa6 kr) (kr.drop 8) ↔ ((fm6 kr = true → (kr.drop 8).length ≠ 0 ∧ (kr.drop 8).length % 8 = 0) ∧ fa6 kr + (kr.drop 8).length ≤ 65535) := Iff.rfl
                have r10 : IntKind.i64.wrap (((fa6 kr : Nat) : Int) + ((kr.drop 8).length : Int)) = ((fa6 kr + (kr.drop 8).length : Nat) : Int) := by rw [wrap_id (by omega) (by omega)]; omega
                have r11 : Int.tmod ((kr.drop 8).length : Int) 8 = (((kr.drop 8).length % 8 : Nat) : Int) := rfl
                unfold kF6
                rw [if_neg c6]
                cases hm : fm6 kr with
                | false =>
                  rw [hm] at r8 hok
                  by_cases c8 : fa6 kr + (kr.drop 8).length ≤ 65535
                  · have c8' : ¬ (65535 : Int) < ((fa6 kr + (kr.drop 8).length : Nat) : Int) := by omega
                    have c9 : okF6 false (fa6 kr) (kr.drop 8) := hok.2 ⟨fun q => by simp at q, c8⟩
                    simp only [go_sem, ↓reduceIte, reduceCtorEq, upd_ne, back_new (no_at), Nat.reduceAdd, Nat.reduceEqDiff, Nat.reduceMul, Nat.reduceSub, Nat.reduceLeDiff, Nat.reduceLT, Int.reduceToNat, Int.reduceLE, Int.reduceLT, Int.reduceEq, UInt8.reduceOfNat, List.getElem?_map, Int.toNat_natCast, Nxt, exIf, Nat.sub_zero, c6', c8', c9, hC, g6, h0, h3, byteLV, q5, q6, hlf, hlt, l40, l41, l42, r1, r2, r5, r6, r8, r9, r10, r11, m8, u8', Nat.le_refl]
                  · have c8' : (65535 : Int) < ((fa6 kr + (kr.drop 8).length : Nat) : Int) := by omega
                    have c9 : ¬ okF6 false (fa6 kr) (kr.drop 8) := fun q => c8 (hok.1 q).2
                    simp only [go_sem, ↓reduceIte, reduceCtorEq, upd_ne, back_new (no_at), Nat.reduceAdd, Nat.reduceEqDiff, Nat.reduceMul, Nat.reduceSub, Nat.reduceLeDiff, Nat.reduceLT, Int.reduceToNat, Int.reduceLE, Int.reduceLT, Int.reduceEq, UInt8.reduceOfNat, List.getElem?_map, Int.toNat_natCast, Nxt, exIf, Nat.sub_zero, c6', c8', c9, hC, g6, h0, h3, byteLV, q5, q6, hlf, hlt, l40, l41, l42, r1, r2, r5, r6, r8, r9, r10, r11, m8, u8', Nat.le_refl]
                | true =>
                  rw [hm] at r8 hok
                  by_cases k3 : (kr.drop 8).length = 0
                  · have k3' : ((kr.drop 8).length : Int) = 0 := by omega
                    have c9 : ¬ okF6 true (fa6 kr) (kr.drop 8) := fun q => ((hok.1 q).1 rfl).1 k3
                    simp only [go_sem, ↓reduceIte, reduceCtorEq, upd_ne, back_new (no_at), Nat.reduceAdd, Nat.reduceEqDiff, Nat.reduceMul, Nat.reduceSub, Nat.reduceLeDiff, Nat.reduceLT, Int.reduceToNat, Int.reduceLE, Int.reduceLT, Int.reduceEq, UInt8.reduceOfNat, List.getElem?_map, Int.toNat_natCast, Nxt, exIf, Nat.sub_zero, c6', c9, k3', hC, g6, h0, h3, byteLV, q5, q6, hlf, hlt, l40, l41, l42, r1, r2, r5, r6, r8, r9, m8, u8', Nat.le_refl]
                  · have k3' : ¬ ((kr.drop 8).length : Int) = 0 := by omega
                    by_cases k4 : (kr.drop 8).length % 8 = 0
                    · have k4' : (((kr.drop 8).length % 8 : Nat) : Int) = 0 := by omega
                      by_cases c8 : fa6 kr + (kr.drop 8).length ≤ 65535
                      · have c8' : ¬ (65535 : Int) < ((fa6 kr + (kr.drop 8).length : Nat) : Int) := by omega
                        have c9 : okF6 true (fa6 kr) (kr.drop 8) := hok.2 ⟨fun q => ⟨k3, k4⟩, c8⟩
                        simp only [go_sem, ↓reduceIte, reduceCtorEq, upd_ne, back_new (no_at), Nat.reduceAdd, Nat.reduceEqDiff, Nat.reduceMul, Nat.reduceSub, Nat.reduceLeDiff, Nat.reduceLT, Int.reduceToNat, Int.reduceLE, Int.reduceLT, Int.reduceEq, UInt8.reduceOfNat, List.getElem?_map, Int.toNat_natCast, Nxt, exIf, Nat.sub_zero, c6', c8', c9, k3', k4', hC, g6, h0, h3, byteLV, q5, q6, hlf, hlt, l40, l41, l42, r1, r2, r5, r6, r8, r9, r10, r11, m8, u8', Nat.le_refl]
                      · have c8' : (65535 : Int) < ((fa6 kr + (kr.drop 8).length : Nat) : Int) := by omega
                        have c9 : ¬ okF6 true (fa6 kr) (kr.drop 8) := fun q => c8 (hok.1 q).2
                        simp only [go_sem, ↓reduceIte, reduceCtorEq, upd_ne, back_new (no_at), Nat.reduceAdd, Nat.reduceEqDiff, Nat.reduceMul, Nat.reduceSub, Nat.reduceLeDiff, Nat.reduceLT, Int.reduceToNat, Int.reduceLE, Int.reduceLT, Int.reduceEq, UInt8.reduceOfNat, List.getElem?_map, Int.toNat_natCast, Nxt, exIf, Nat.sub_zero, c6', c8', c9, k3', k4', hC, g6, h0, h3, byteLV, q5, q6, hlf, hlt, l40, l41, l42, r1, r2, r5, r6, r8, r9, r10, r11, m8, u8', Nat.le_refl]
                    · have k4' : ¬ (((kr.drop 8).length % 8 : Nat) : Int) = 0 := by omega
                      have c9 : ¬ okF6 true (fa6 kr) (kr.drop 8) := fun q => k4 ((hok.1 q).1 rfl).2
                      simp only [go_sem, ↓reduceIte, reduceCtorEq, upd_ne, back_new (no_at), Nat.reduceAdd, Nat.reduceEqDiff, Nat.reduceMul, Nat.reduceSub, Nat.reduceLeDiff, Nat.reduceLT, Int.reduceToNat, Int.reduceLE, Int.reduceLT, Int.reduceEq, UInt8.reduceOfNat, List.getElem?_map, Int.toNat_natCast, Nxt, exIf, Nat.sub_zero, c6', c9, k3', k4', hC, g6, h0, h3, byteLV, q5, q6, hlf, hlt, l40, l41, l42, r1, r2, r5, r6, r8, r9, r10, r11, m8, u8', Nat.le_refl]
            · simp only [go_sem, ↓reduceIte, reduceCtorEq, upd_ne, back_new (no_at), Nat.reduceAdd, Nat.reduceEqDiff, Nat.reduceMul, Nat.reduceSub, Nat.reduceLeDiff, Nat.reduceLT, Int.reduceToNat, Int.reduceLE, Int.reduceLT, Int.reduceEq, UInt8.reduceOfNat, List.getElem?_map, Int.toNat_natCast, Nxt, exIf, Nat.sub_zero, c5, hC, g6, byteLV, q5, q6, hlf, hlt, l40, l41, l42, Nat.le_refl]
          · simp only [go_sem, ↓reduceIte, reduceCtorEq, upd_ne, back_new (no_at), Nat.reduceAdd, Nat.reduceEqDiff, Nat.reduceMul, Nat.reduceSub, Nat.reduceLeDiff, Nat.reduceLT, Int.reduceToNat, Int.reduceLE, Int.reduceLT, Int.reduceEq, UInt8.reduceOfNat, List.getElem?_map, Int.toNat_natCast, Nxt, exIf, Nat.sub_zero, c4, hC, g6, byteLV, q5, q6, hlf, hlt, l40, l41, l42, Nat.le_refl]
end
end Go.Ev

/- Layer 4: the same packet; great packets; the statements on what is parsed. -/
namespace Go.Ev
set_option linter.unusedSimpArgs false
set_option linter.unusedVariables false
set_option maxRecDepth 10000
set_option maxHeartbeats 8000000
theorem pfr6_len {s : List UInt8} (h : 40 ≤ s.length) : (pfr6 s).length = 16 := by unfold pfr6; simp; omega
theorem pto6_len {s : List UInt8} (h : 40 ≤ s.length) : (pto6 s).length = 16 := by unfold pto6; simp; omega
theorem pK6_40 {s : List UInt8} (h : pK6 s = 0) : 40 ≤ s.length := by
  unfold pK6 at h
  split at h
  · simp at h
  · omega
theorem r6_ag {s : List UInt8} : LV.isAgg (pLV6 s) = true := by unfold pLV6 mk6; split <;> (try split) <;> exact Eq.trans rfl rfl
theorem r6_st {s : List UInt8} : stor (pLV6 s) = true := by unfold pLV6 mk6; split <;> (try split) <;> exact Eq.trans rfl rfl
theorem r6_pl {s : List UInt8} : plainRes (pLV6 s) = true := by unfold pLV6 mk6; split <;> (try split) <;> exact Eq.trans rfl rfl
theorem r6_fl {s : List UInt8} : flatLen (pLV6 s) = 42 := by
  unfold pLV6 mk6
  split
  · rename_i h
    have h := pK6_40 h
    split <;> simp only [go_sem, ↓reduceIte, reduceCtorEq, upd_ne, back_new (no_at), Nat.reduceAdd, Nat.reduceEqDiff, Nat.reduceMul, Nat.reduceSub, Nat.reduceLeDiff, Nat.reduceLT, Int.reduceToNat, Int.reduceLE, Int.reduceLT, Int.reduceEq, UInt8.reduceOfNat, pfr6_len h, pto6_len h]
  · simp only [go_sem, ↓reduceIte, reduceCtorEq, upd_ne, back_new (no_at), Nat.reduceAdd, Nat.reduceEqDiff, Nat.reduceMul, Nat.reduceSub, Nat.reduceLeDiff, Nat.reduceLT, Int.reduceToNat, Int.reduceLE, Int.reduceLT, Int.reduceEq, UInt8.reduceOfNat]
theorem r6_ps {s : List UInt8} : psl (pLV6 s) = some (pLV6 s) := by
  unfold pLV6 mk6
  split
  · split <;> simp only [go_sem, ↓reduceIte, reduceCtorEq, upd_ne, back_new (no_at), Nat.reduceAdd, Nat.reduceEqDiff, Nat.reduceMul, Nat.reduceSub, Nat.reduceLeDiff, Nat.reduceLT, Int.reduceToNat, Int.reduceLE, Int.reduceLT, Int.reduceEq, UInt8.reduceOfNat]
  · simp only [go_sem, ↓reduceIte, reduceCtorEq, upd_ne, back_new (no_at), Nat.reduceAdd, Nat.reduceEqDiff, Nat.reduceMul, Nat.reduceSub, Nat.reduceLeDiff, Nat.reduceLT, Int.reduceToNat, Int.reduceLE, Int.reduceLT, Int.reduceEq, UInt8.reduceOfNat]
theorem r6_none {s : List UInt8} (h : ¬ pK6 s = 0) : pLV6 s = z6LV := by unfold pLV6; rw [if_neg h]
attribute [go_sem ↓] r6_ag r6_st r6_pl r6_fl r6_ps
def grN : List (Int × List UInt8) → Nat
  | [] => 0
  | e :: l => min e.2.length 70001 + grN l
def greatS (ex : List (Int × List UInt8)) (da : List UInt8) : Bool := decide (20 < ex.length) || decide (70000 < da.length + grN (ex.take 21))
theorem grN_app : ∀ a b, grN (a ++ b) = grN a + grN b
  | [], b => by simp [grN]
  | e :: a, b => by simp only [List.cons_append, grN, grN_app a b]; omega
theorem grN_le : ∀ (ex : List (Int × List UInt8)), grN ex ≤ 70001 * ex.length
  | [] => by simp [grN]
  | e :: l => by have := grN_le l; simp only [grN, List.length_cons]; omega
theorem grN_mem : ∀ (ex : List (Int × List UInt8)), grN ex ≤ 70000 → ∀ e ∈ ex, e.2.length ≤ 70000
  | [], _, e, he => by simp at he
  | x :: l, h, e, he => by
    simp only [grN] at h
    rcases List.mem_cons.1 he with rfl | he
    · omega
    · exact grN_mem l (by omega) e he
theorem grN_sz : ∀ (ex : List (Int × List UInt8)), grN ex ≤ 70000 → szE ex = grN ex + 2 * ex.length
  | [], _ => by simp [grN, szE]
  | e :: l, h => by
    simp only [grN] at h
    have := grN_sz l (by omega)
    simp only [grN, szE, List.length_cons]
    omega
theorem not_great {ex : List (Int × List UInt8)} {da : List UInt8} (h : greatS ex da = false) : SmE ex ∧ da.length ≤ 70000 ∧ szE ex + da.length ≤ 70040 := by
  unfold greatS at h
  simp only [Bool.or_eq_false_iff, decide_eq_false_iff_not] at h
  obtain ⟨h1, h2⟩ := h
  rw [List.take_of_length_le (by omega)] at h2
  have h3 := grN_sz ex (by omega)
  exact ⟨⟨by omega, grN_mem ex (by omega)⟩, by omega, by omega⟩
section
variable {S : Sys} (hS : Has S) (n : Nat)
variable {cl fl ho : Int} {fr to : List UInt8} {ex : List (Int × List UInt8)} {fg : Bool} {id at' : Int} {mo : Bool} {pt : Int} {da : List UInt8}
include hS
theorem ev_Same (hfr : fr.length = 16) (hto : to.length = 16) (hl : ex.length ≤ 140737488351232) :
    S.ev (n + 1) id_interpreterref04_Same [ip6LV cl fl ho fr to (extsLV ex) fg id at' mo pt da, ip6LV cl fl ho fr to (extsLV ex) fg id at' mo pt da] none = some (.bool true, none) := by
  rw [Sys.step hS.h_interpreterref04_Same, F_interpreterref04_Same_eq]
  unfold F_interpreterref04_Same
  (try simp only [guard_merge, or_merge, and_merge, or_pick, and_pick, guard_or, guard_and]); simp only [to_ob]
  simp only [go_sem, ↓reduceIte, reduceCtorEq, upd_ne, back_new (no_at), Nat.reduceAdd, Nat.reduceEqDiff, Nat.reduceMul, Nat.reduceSub, Nat.reduceLeDiff, Nat.reduceLT, Int.reduceToNat, Int.reduceLE, Int.reduceLT, Int.reduceEq, UInt8.reduceOfNat, hfr, hto, List.length_map]
  refine while_rule (fun k q => ∃ i : Nat, q = ([.bool false, .int .i64 (i : Int)], noSlots) ∧ i + k = ex.length) ex.length ⟨0, rfl, by simp⟩ ?_
  rintro k q ⟨i, rfl, hi⟩
  simp only [go_sem, ↓reduceIte, reduceCtorEq, upd_ne, back_new (no_at), Nat.reduceAdd, Nat.reduceEqDiff, Nat.reduceMul, Nat.reduceSub, Nat.reduceLeDiff, Nat.reduceLT, Int.reduceToNat, Int.reduceLE, Int.reduceLT, Int.reduceEq, UInt8.reduceOfNat, hfr, hto, List.length_map]
  refine nxt_ite (fun h => ?_) (fun h => ?_)
  · have hlt : i < ex.length := by omega
    obtain ⟨e, he⟩ : ∃ e, ex[i]? = some e := ⟨ex[i], by simp [hlt]⟩
    have e1 : IntKind.i64.wrap ((i : Int) + 1) = ((i + 1 : Nat) : Int) := by rw [wrap_id (by omega) (by omega)]; omega
    simp only [go_sem, ↓reduceIte, reduceCtorEq, upd_ne, back_new (no_at), Nat.reduceAdd, Nat.reduceEqDiff, Nat.reduceMul, Nat.reduceSub, Nat.reduceLeDiff, Nat.reduceLT, Int.reduceToNat, Int.reduceLE, Int.reduceLT, Int.reduceEq, UInt8.reduceOfNat, List.getElem?_map, Int.toNat_natCast, he, e1, hfr, hto]
    exact ⟨k - 1, by omega, i + 1, rfl, by omega⟩
  · simp only [go_sem, ↓reduceIte, reduceCtorEq, upd_ne, back_new (no_at), Nat.reduceAdd, Nat.reduceEqDiff, Nat.reduceMul, Nat.reduceSub, Nat.reduceLeDiff, Nat.reduceLT, Int.reduceToNat, Int.reduceLE, Int.reduceLT, Int.reduceEq, UInt8.reduceOfNat, hfr, hto, Nxt, exIf, beq_self_eq_true]
theorem ev_Great (h : FitIp6 cl fl ho fr to ex id at' pt da) : S.ev (n + 1) id_interpreterlaw04_Great [ip6LV cl fl ho fr to (extsLV ex) fg id at' mo pt da] none = some (.bool (greatS ex da), none) := by
  rw [Sys.step hS.h_interpreterlaw04_Great, F_interpreterlaw04_Great_eq]
  unfold F_interpreterlaw04_Great
  have hf := h.hfr
  have ht := h.hto
  have hex := h.hex
  have hda := h.hda
  (try simp only [guard_merge, or_merge, and_merge, or_pick, and_pick, guard_or, guard_and]); simp only [to_ob]
  simp only [go_sem, ↓reduceIte, reduceCtorEq, upd_ne, back_new (no_at), Nat.reduceAdd, Nat.reduceEqDiff, Nat.reduceMul, Nat.reduceSub, Nat.reduceLeDiff, Nat.reduceLT, Int.reduceToNat, Int.reduceLE, Int.reduceLT, Int.reduceEq, UInt8.reduceOfNat, hf, ht]
  refine while_rule (fun k q => ∃ i : Nat, q = ([.int .i64 ((da.length + grN (ex.take i) : Nat) : Int), .int .i64 (i : Int)], noSlots) ∧ i ≤ 21 ∧ i ≤ ex.length ∧ k = 21 - i) 21 ⟨0, by simp [grN], by omega, by omega, rfl⟩ ?_
  rintro k q ⟨i, rfl, hi, hi2, rfl⟩
  by_cases c1 : i < ex.length ∧ i ≤ 20
  · obtain ⟨c1, c2⟩ := c1
    have c1' : (i : Int) < (ex.length : Int) := by omega
    have c2' : (i : Int) ≤ 20 := by omega
    obtain ⟨e, he⟩ : ∃ e, ex[i]? = some e := ⟨ex[i], by simp [c1]⟩
    have htk : ex.take (i + 1) = ex.take i ++ [e] := by rw [List.take_add_one, he]; rfl
    have e1 : IntKind.i64.wrap ((i : Int) + 1) = ((i + 1 : Nat) : Int) := by rw [wrap_id (by omega) (by omega)]; omega
    have hg := grN_le (ex.take i)
    rw [List.length_take] at hg
    have e2 : IntKind.i64.wrap (((da.length + grN (ex.take i) : Nat) : Int) + (if (70001 : Int) < (e.2.length : Int) then 70001 else (e.2.length : Int))) = ((da.length + grN (ex.take (i + 1)) : Nat) : Int) := by
      rw [htk, grN_app]
      simp only [grN]
      split <;> rw [wrap_id (by omega) (by omega)] <;> omega
    simp only [go_sem, ↓reduceIte, reduceCtorEq, upd_ne, back_new (no_at), Nat.reduceAdd, Nat.reduceEqDiff, Nat.reduceMul, Nat.reduceSub, Nat.reduceLeDiff, Nat.reduceLT, Int.reduceToNat, Int.reduceLE, Int.reduceLT, Int.reduceEq, UInt8.reduceOfNat, List.getElem?_map, Int.toNat_natCast, hf, ht, c1', c2', he, e1, e2, pMinmax, pMinmax2, List.length_map]
    exact ⟨21 - (i + 1), by omega, i + 1, rfl, by omega, by omega, rfl⟩
  · have hcn : ¬ ((i : Int) < (ex.length : Int) ∧ (i : Int) ≤ 20) := fun q => c1 ⟨by omega, by omega⟩
    have hg : grN (ex.take i) = grN (ex.take 21) := by
      rcases Nat.lt_or_ge i ex.length with h | h
      · rw [show i = 21 by omega]
      · rw [List.take_of_length_le h, List.take_of_length_le (by omega)]
    unfold greatS
    rw [← hg]
    generalize grN (ex.take i) = G
    have t1 : ((20 : Int) < (ex.length : Int)) = (20 < ex.length) := propext (by omega)
    have t2 : ((70000 : Int) < ((da.length + G : Nat) : Int)) = (70000 < da.length + G) := propext (by omega)
    simp only [go_sem, ↓reduceIte, reduceCtorEq, upd_ne, back_new (no_at), Nat.reduceAdd, Nat.reduceEqDiff, Nat.reduceMul, Nat.reduceSub, Nat.reduceLeDiff, Nat.reduceLT, Int.reduceToNat, Int.reduceLE, Int.reduceLT, Int.reduceEq, UInt8.reduceOfNat, List.getElem?_map, Int.toNat_natCast, hcn, hf, ht, List.length_map, Nxt, exIf, t1, t2]
    try (by_cases h1 : 20 < ex.length <;> by_cases h2 : 70000 < da.length + G <;> simp [h1, h2])
theorem ev_same4 (c d : Int) : S.ev (n + 1) id_interpreterlaw04_same [fE c, .int .i64 d] none = some (.bool (decide (c = d)), none) := by
  rw [Sys.step hS.h_interpreterlaw04_same, F_interpreterlaw04_same_eq]
  unfold F_interpreterlaw04_same fE
  (try simp only [guard_merge, or_merge, and_merge, or_pick, and_pick, guard_or, guard_and]); simp only [to_ob]
  by_cases hc : c = 0
  · by_cases hd : d = 0
    · simp only [go_sem, ↓reduceIte, reduceCtorEq, upd_ne, back_new (no_at), Nat.reduceAdd, Nat.reduceEqDiff, Nat.reduceMul, Nat.reduceSub, Nat.reduceLeDiff, Nat.reduceLT, Int.reduceToNat, Int.reduceLE, Int.reduceLT, Int.reduceEq, UInt8.reduceOfNat, hc, hd]
    · have : ¬ (0 : Int) = d := fun e => hd e.symm
      simp only [go_sem, ↓reduceIte, reduceCtorEq, upd_ne, back_new (no_at), Nat.reduceAdd, Nat.reduceEqDiff, Nat.reduceMul, Nat.reduceSub, Nat.reduceLeDiff, Nat.reduceLT, Int.reduceToNat, Int.reduceLE, Int.reduceLT, Int.reduceEq, UInt8.reduceOfNat, hc, hd, this]
  · by_cases hd : d = 0
    · have : ¬ c = d := fun e => hc (e.trans hd)
      simp only [go_sem, ↓reduceIte, reduceCtorEq, upd_ne, back_new (no_at), Nat.reduceAdd, Nat.reduceEqDiff, Nat.reduceMul, Nat.reduceSub, Nat.reduceLeDiff, Nat.reduceLT, Int.reduceToNat, Int.reduceLE, Int.reduceLT, Int.reduceEq, UInt8.reduceOfNat, hc, hd, this]
    · simp only [go_sem, ↓reduceIte, reduceCtorEq, upd_ne, back_new (no_at), Nat.reduceAdd, Nat.reduceEqDiff, Nat.reduceMul, Nat.reduceSub, Nat.reduceLeDiff, Nat.reduceLT, Int.reduceToNat, Int.reduceLE, Int.reduceLT, Int.reduceEq, UInt8.reduceOfNat, hc, hd]
theorem ev_zeros (k : Nat) (hk : k ≤ 1000000) : S.ev (n + 2) id_interpreterlaw04_zeros [.int .i64 (k : Int)] none = some (.str (List.replicate k 0), none) := by
  rw [Sys.step hS.h_interpreterlaw04_zeros, F_interpreterlaw04_zeros_eq]
  unfold F_interpreterlaw04_zeros
  have hr := hS.x_rep.ev n (s := [0]) (c := k) (by omega) (by simp; omega)
  rw [repL_eq] at hr
  (try simp only [guard_merge, or_merge, and_merge, or_pick, and_pick, guard_or, guard_and]); simp only [to_ob]
  simp only [go_sem, ↓reduceIte, reduceCtorEq, upd_ne, back_new (no_at), Nat.reduceAdd, Nat.reduceEqDiff, Nat.reduceMul, Nat.reduceSub, Nat.reduceLeDiff, Nat.reduceLT, Int.reduceToNat, Int.reduceLE, Int.reduceLT, Int.reduceEq, UInt8.reduceOfNat, hr]
end
abbrev ex6 : LV := ip6LV 0 0 64 y16 y16 (.lst none []) false 0 0 false 17 [104, 105]
abbrev exS6 : List UInt8 := [96, 0, 0, 0, 0, 2, 17, 64, 0, 0, 0, 0, 0, 0, 0, 0, 0, 0, 0, 0, 0, 0, 0, 0, 0, 0, 0, 0, 0, 0, 0, 0, 0, 0, 0, 0, 0, 0, 0, 0, 104, 105]
theorem ex6_fit : FitIp6 0 0 64 y16 y16 [] 0 0 17 [104, 105] := ⟨⟨by omega, by omega⟩, ⟨by omega, by omega⟩, ⟨by omega, by omega⟩, rfl, rfl, by simp, by simp, ⟨by omega, by omega⟩, ⟨by omega, by omega⟩, ⟨by omega, by omega⟩, by simp⟩
theorem ex6_why : why6 0 0 64 [] false 0 0 false 17 [104, 105] = 0 := by decide
theorem ex6_by : by6R 0 0 64 y16 y16 [] false 0 0 false 17 [104, 105] = exS6 := by decide +kernel
theorem ex6_K : pK6 exS6 = 0 := by decide +kernel
theorem ex6_L : mk6 exS6 (k6 exS6) = ex6 := by
  have h : k6 exS6 = (0, [], 17, [104, 105]) := by decide +kernel
  rw [h]
  rfl
section
variable {S : Sys} (hS : Has S) (n : Nat)
include hS
theorem ev_awake4 : S.ev (n + 6) id_interpreterlaw04_awake [] none = some (.bool true, none) := by
  rw [Sys.step hS.h_interpreterlaw04_awake, F_interpreterlaw04_awake_eq]
  unfold F_interpreterlaw04_awake
  have h1 := ev_bytes6 hS (n + 1) (fg := false) (mo := false) ex6_fit
  rw [ex6_by, ex6_why] at h1
  have h2 := ev_parse6 hS (n + 1) exS6 (by simp)
  have hL : pLV6 exS6 = ex6 := by unfold pLV6; rw [if_pos ex6_K, ex6_L]
  rw [ex6_K, hL] at h2
  have h1 : S.ev (n + 5) id_ip6_Bytes [ex6] none = some (.tup [.str exS6, fE 0], none) := h1
  have h3 : S.ev (n + 5) id_interpreterref04_Same [ex6, ex6] none = some (.bool true, none) := ev_Same hS (n + 4) (cl := 0) (fl := 0) (ho := 64) (fr := y16) (to := y16) (ex := []) (fg := false) (id := 0) (at' := 0) (mo := false) (pt := 17) (da := [104, 105]) rfl rfl (by simp)
  have h4 : S.ev (n + 5) id_interpreterlaw04_zeros [.int .i64 32] none = some (.str (List.replicate 32 0), none) := ev_zeros hS (n + 3) 32 (by omega)
  have u0 : fE 0 = .nili := rfl
  rw [u0] at h1 h2
  have m1 : 8 + 32 ≤ maxStr := by decide
  have m2 : 8 + 32 + 2 ≤ maxStr := by decide
  (try simp only [guard_merge, or_merge, and_merge, or_pick, and_pick, guard_or, guard_and]); simp only [to_ob]
  simp only [go_sem, ↓reduceIte, reduceCtorEq, upd_ne, back_new (no_at), Nat.reduceAdd, Nat.reduceEqDiff, Nat.reduceMul, Nat.reduceSub, Nat.reduceLeDiff, Nat.reduceLT, Int.reduceToNat, Int.reduceLE, Int.reduceLT, Int.reduceEq, UInt8.reduceOfNat, ↓e_sadd, h1, h2, h3, h4, m1, m2, List.length_append, List.length_replicate]
theorem ev_Same6 (s : List UInt8) : S.ev (n + 1) id_interpreterref04_Same [pLV6 s, pLV6 s] none = some (.bool true, none) := by
  unfold pLV6
  by_cases h : pK6 s = 0
  · rw [if_pos h]
    have h40 := pK6_40 h
    have hl := chC_len 8 true ((bAt s 6 : Nat) : Int) ((s.drop 40).take (wAt s 4))
    unfold mk6
    by_cases h2 : (k6 s).2.2.1 = 44
    · rw [if_pos h2]
      exact ev_Same hS n (pfr6_len h40) (pto6_len h40) (by unfold k6; omega)
    · rw [if_neg h2]
      exact ev_Same hS n (pfr6_len h40) (pto6_len h40) (by unfold k6; omega)
  · rw [if_neg h]
    exact ev_Same hS n (ex := []) rfl rfl (by simp)
theorem ev_Ip6Reads {vs : List LV} (h : fitVL [.str] vs) : S.ev (n + 7) id_interpreterlaw04_Ip6Reads vs none = some (.bool true, none) := by
  obtain ⟨a, r, e, g1, q1⟩ := fit_cons h; clear h; subst e; obtain ⟨s, rfl, hs⟩ := fit_str g1; clear g1
  obtain rfl := fit_nil q1
  rw [Sys.step hS.h_interpreterlaw04_Ip6Reads, F_interpreterlaw04_Ip6Reads_eq]
  unfold F_interpreterlaw04_Ip6Reads
  have ha := ev_awake4 hS n
  have h1 := ev_parse6 hS (n + 2) s hs
  have hsa := ev_Same6 hS (n + 5) s
  have hsm := ev_same4 hS (n + 5) (pK6 s) (pK6 s)
  rw [decide_eq_true rfl] at hsm
  (try simp only [guard_merge, or_merge, and_merge, or_pick, and_pick, guard_or, guard_and]); simp only [to_ob]
  by_cases c : 70000 < (s.length : Int)
  · simp only [go_sem, ↓reduceIte, reduceCtorEq, upd_ne, back_new (no_at), Nat.reduceAdd, Nat.reduceEqDiff, Nat.reduceMul, Nat.reduceSub, Nat.reduceLeDiff, Nat.reduceLT, Int.reduceToNat, Int.reduceLE, Int.reduceLT, Int.reduceEq, UInt8.reduceOfNat, ha, c]
  · have h2 := ev_rparse6 hS (n + 2) s (by omega)
    simp only [go_sem, ↓reduceIte, reduceCtorEq, upd_ne, back_new (no_at), Nat.reduceAdd, Nat.reduceEqDiff, Nat.reduceMul, Nat.reduceSub, Nat.reduceLeDiff, Nat.reduceLT, Int.reduceToNat, Int.reduceLE, Int.reduceLT, Int.reduceEq, UInt8.reduceOfNat, ha, c, h1, h2, hsm, hsa]
theorem ev_Ip6Chains {vs : List LV} (h : fitVL [.int .i64, .str] vs) : S.ev (n + 7) id_interpreterlaw04_Ip6Chains vs none = some (.bool true, none) := by
  obtain ⟨a, r, e, g1, q1⟩ := fit_cons h; clear h; subst e; obtain ⟨nx, rfl, hnx⟩ := fit_i64 g1; clear g1
  obtain ⟨a, r, e, g2, q2⟩ := fit_cons q1; clear q1; subst e; obtain ⟨s, rfl, hs⟩ := fit_str g2; clear g2
  obtain rfl := fit_nil q2
  rw [Sys.step hS.h_interpreterlaw04_Ip6Chains, F_interpreterlaw04_Ip6Chains_eq]
  unfold F_interpreterlaw04_Ip6Chains
  have ha := ev_awake4 hS n
  have h1 := ev_chain6 hS (n + 4) nx s hs
  have h2 := ev_rchain6 hS (n + 5) nx s hs
  unfold chLV at h1
  unfold chLV' at h2
  have hl := chC_len 8 true nx s
  generalize chC 8 true nx s = k at *
  have hsa := ev_Same hS (n + 5) (cl := 0) (fl := 0) (ho := 0) (fr := y16) (to := y16) (ex := k.2.1) (fg := false) (id := 0) (at' := 0) (mo := false) (pt := 0) (da := []) rfl rfl (by omega)
  have hsm := ev_same4 hS (n + 5) k.1 k.1
  rw [decide_eq_true rfl] at hsm
  (try simp only [guard_merge, or_merge, and_merge, or_pick, and_pick, guard_or, guard_and]); simp only [to_ob]
  by_cases c : 70000 < (s.length : Int)
  · simp only [go_sem, ↓reduceIte, reduceCtorEq, upd_ne, back_new (no_at), Nat.reduceAdd, Nat.reduceEqDiff, Nat.reduceMul, Nat.reduceSub, Nat.reduceLeDiff, Nat.reduceLT, Int.reduceToNat, Int.reduceLE, Int.reduceLT, Int.reduceEq, UInt8.reduceOfNat, ha, c]
  · simp only [go_sem, ↓reduceIte, reduceCtorEq, upd_ne, back_new (no_at), Nat.reduceAdd, Nat.reduceEqDiff, Nat.reduceMul, Nat.reduceSub, Nat.reduceLeDiff, Nat.reduceLT, Int.reduceToNat, Int.reduceLE, Int.reduceLT, Int.reduceEq, UInt8.reduceOfNat, ha, c, h1, h2, hsm, hsa]
end
end Go.Ev

/- Layer 4, the document's: why a packet has no bytes. -/
namespace Go.Ev
set_option linter.unusedSimpArgs false
set_option linter.unusedVariables false
set_option maxRecDepth 4000
set_option maxHeartbeats 8000000
section
variable {S : Sys} (hS : Has S) (n : Nat)
variable {cl fl ho : Int} {fr to : List UInt8} {ex : List (Int × List UInt8)} {fg : Bool} {id at' : Int} {mo : Bool} {pt : Int} {da : List UInt8}
include hS
theorem ev_bound4 (x m : Int) : S.ev (n + 1) id_interpreterref04_bound [.int .i64 x, .int .i64 m] none = some (.bool (decide (0 ≤ x ∧ x ≤ m)), none) := by
  rw [Sys.step hS.h_interpreterref04_bound, F_interpreterref04_bound_eq]
  unfold F_interpreterref04_bound
  (try simp only [guard_merge, or_merge, and_merge, or_pick, and_pick, guard_or, guard_and]); simp only [to_ob]
  by_cases h1 : 0 ≤ x <;> by_cases h2 : x ≤ m <;> simp only [go_sem, ↓reduceIte, reduceCtorEq, upd_ne, back_new (no_at), Nat.reduceAdd, Nat.reduceEqDiff, Nat.reduceMul, Nat.reduceSub, Nat.reduceLeDiff, Nat.reduceLT, Int.reduceToNat, Int.reduceLE, Int.reduceLT, Int.reduceEq, UInt8.reduceOfNat, h1, h2]
theorem ev_Why6 (hfr : fr.length = 16) (hto : to.length = 16) (sm : SmE ex) (hda : da.length ≤ 1000000) :
    S.ev (n + 2) id_interpreterref04_Why [ip6LV cl fl ho fr to (extsLV ex) fg id at' mo pt da] none = some (.int .i64 (why6 cl fl ho ex fg id at' mo pt da), none) := by
  rw [Sys.step hS.h_interpreterref04_Why, F_interpreterref04_Why_eq]
  unfold F_interpreterref04_Why
  have hw := ev_bound4 hS n
  have hl := sm.n
  (try simp only [guard_merge, or_merge, and_merge, or_pick, and_pick, guard_or, guard_and]); simp only [to_ob]
  unfold why6
  by_cases c1 : rg6 cl fl ho at' pt
  · rw [if_pos c1]
    obtain ⟨⟨a1, a2⟩, ⟨a3, a4⟩, ⟨a5, a6⟩, ⟨a7, a8⟩, ⟨a9, a10⟩, a11⟩ := c1
    simp only [go_sem, ↓reduceIte, reduceCtorEq, upd_ne, back_new (no_at), Nat.reduceAdd, Nat.reduceEqDiff, Nat.reduceMul, Nat.reduceSub, Nat.reduceLeDiff, Nat.reduceLT, Int.reduceToNat, Int.reduceLE, Int.reduceLT, Int.reduceEq, UInt8.reduceOfNat, hfr, hto, hw, a1, a2, a3, a4, a5, a6, a7, a8, a9, a10, a11]
    refine while_rule (fun k q => ∃ i : Nat, q = ([.int .i64 0, .int .i64 ((da.length + szE (ex.take i) : Nat) : Int), .int .i64 (i : Int)], noSlots) ∧ i + k = ex.length ∧ kB (ex.drop i) = kB ex) ex.length ⟨0, by simp [szE], by simp, by simp⟩ ?_
    rintro k q ⟨i, rfl, hi, hr⟩
    simp only [go_sem, ↓reduceIte, reduceCtorEq, upd_ne, back_new (no_at), Nat.reduceAdd, Nat.reduceEqDiff, Nat.reduceMul, Nat.reduceSub, Nat.reduceLeDiff, Nat.reduceLT, Int.reduceToNat, Int.reduceLE, Int.reduceLT, Int.reduceEq, UInt8.reduceOfNat, hfr, hto, List.length_map]
    refine nxt_ite (fun h => ?_) (fun h => ?_)
    · have hlt : i < ex.length := by omega
      obtain ⟨e, he⟩ : ∃ e, ex[i]? = some e := ⟨ex[i], by simp [hlt]⟩
      have hd := drop_ex he
      have htk : ex.take (i + 1) = ex.take i ++ [e] := by rw [List.take_add_one, he]; rfl
      have heb := sm.b e (List.mem_of_getElem? he)
      have hsz := szE_le (ex.take i) fun x hx => sm.b x (List.mem_of_mem_take hx)
      rw [List.length_take] at hsz
      have e1 : IntKind.i64.wrap ((i : Int) + 1) = ((i + 1 : Nat) : Int) := by rw [wrap_id (by omega) (by omega)]; omega
      have e2 : IntKind.i64.wrap (IntKind.i64.wrap (((da.length + szE (ex.take i) : Nat) : Int) + 2) + (e.2.length : Int)) = ((da.length + szE (ex.take (i + 1)) : Nat) : Int) := by
        rw [wrap_id (n := ((da.length + szE (ex.take i) : Nat) : Int) + 2) (by omega) (by omega), wrap_id (by omega) (by omega), htk, szE_app]
        simp only [szE]
        omega
      by_cases h1 : isE e.1
      · have hok : kB (ex.drop (i + 1)) = kB ex := by rw [← hr, hd]; simp only [kB, List.all_cons, decide_eq_true h1, Bool.true_and]
        by_cases z1 : e.1 = 0
        · simp only [go_sem, ↓reduceIte, reduceCtorEq, upd_ne, back_new (no_at), Nat.reduceAdd, Nat.reduceEqDiff, Nat.reduceMul, Nat.reduceSub, Nat.reduceLeDiff, Nat.reduceLT, Int.reduceToNat, Int.reduceLE, Int.reduceLT, Int.reduceEq, UInt8.reduceOfNat, List.getElem?_map, Int.toNat_natCast, he, e1, e2, z1, hfr, hto]
          exact ⟨k - 1, by omega, i + 1, rfl, by omega, hok⟩
        · by_cases z2 : e.1 = 43
          · simp only [go_sem, ↓reduceIte, reduceCtorEq, upd_ne, back_new (no_at), Nat.reduceAdd, Nat.reduceEqDiff, Nat.reduceMul, Nat.reduceSub, Nat.reduceLeDiff, Nat.reduceLT, Int.reduceToNat, Int.reduceLE, Int.reduceLT, Int.reduceEq, UInt8.reduceOfNat, List.getElem?_map, Int.toNat_natCast, he, e1, e2, z2, hfr, hto]
            exact ⟨k - 1, by omega, i + 1, rfl, by omega, hok⟩
          · have z3 : e.1 = 60 := by
              rcases h1 with (h1 | h1) | h1
              · exact absurd h1 z1
              · exact absurd h1 z2
              · exact h1
            simp only [go_sem, ↓reduceIte, reduceCtorEq, upd_ne, back_new (no_at), Nat.reduceAdd, Nat.reduceEqDiff, Nat.reduceMul, Nat.reduceSub, Nat.reduceLeDiff, Nat.reduceLT, Int.reduceToNat, Int.reduceLE, Int.reduceLT, Int.reduceEq, UInt8.reduceOfNat, List.getElem?_map, Int.toNat_natCast, he, e1, e2, z3, hfr, hto]
            exact ⟨k - 1, by omega, i + 1, rfl, by omega, hok⟩
      · have hk : kB ex = false := by rw [← hr, hd]; simp only [kB, List.all_cons, decide_eq_false h1, Bool.false_and]
        have hk' : ¬ kd6 ex fg pt := fun q => by have := q.1; rw [hk] at this; simp at this
        have z1 : ¬ e.1 = 0 := fun h => h1 (Or.inl (Or.inl h))
        have z2 : ¬ e.1 = 43 := fun h => h1 (Or.inl (Or.inr h))
        have z3 : ¬ e.1 = 60 := fun h => h1 (Or.inr h)
        rw [if_neg hk']
        simp only [go_sem, ↓reduceIte, reduceCtorEq, upd_ne, back_new (no_at), Nat.reduceAdd, Nat.reduceEqDiff, Nat.reduceMul, Nat.reduceSub, Nat.reduceLeDiff, Nat.reduceLT, Int.reduceToNat, Int.reduceLE, Int.reduceLT, Int.reduceEq, UInt8.reduceOfNat, List.getElem?_map, Int.toNat_natCast, he, z1, z2, z3, hfr, hto, Nxt, exIf]
    · obtain rfl : i = ex.length := by omega
      rw [List.drop_eq_nil_of_le (by omega)] at hr
      have hk : kB ex = true := by rw [← hr]; rfl
      rw [List.take_of_length_le (by omega)]
      have hsz := szE_le ex sm.b
      simp only [go_sem, ↓reduceIte, reduceCtorEq, upd_ne, back_new (no_at), Nat.reduceAdd, Nat.reduceEqDiff, Nat.reduceMul, Nat.reduceSub, Nat.reduceLeDiff, Nat.reduceLT, Int.reduceToNat, Int.reduceLE, Int.reduceLT, Int.reduceEq, UInt8.reduceOfNat, hfr, hto, Nxt, exIf, List.length_map]
      have go2 : ∀ (R : Type) (rest : LV → Option R) (v : Option R), True := fun _ _ _ => trivial
      have bad : ¬ kd6 ex fg pt → fg = false ∧ (isE pt ∨ pt = 44) := by
        intro h
        cases fg
        · refine ⟨rfl, ?_⟩
          by_cases h2 : isE pt
          · exact Or.inl h2
          · refine Or.inr (Classical.byContradiction fun h3 => h ⟨hk, fun _ => ⟨h2, h3⟩⟩)
        · exact absurd ⟨hk, fun q => by simp at q⟩ h
      by_cases c2 : kd6 ex fg pt
      · rw [if_pos c2]
        have c2b : fg = true ∨ (fg = false ∧ ¬ pt = 0 ∧ ¬ pt = 43 ∧ ¬ pt = 44 ∧ ¬ pt = 60) := by
          cases fg
          · obtain ⟨h1, h2⟩ := c2.2 rfl
            exact Or.inr ⟨rfl, fun h => h1 (Or.inl (Or.inl h)), fun h => h1 (Or.inl (Or.inr h)), h2, fun h => h1 (Or.inr h)⟩
          · exact Or.inl rfl
        have loop2 : ∀ (K : List LV × Slots → Option (LV × Option LV)) (stepf : List LV × Slots → Option ((List LV × Slots) ⊕ (Ex × List LV × Slots))), True := fun _ _ => trivial
        have e2 : ∀ b : Nat, Int.tmod (b : Int) 8 = ((b % 8 : Nat) : Int) := fun b => rfl
        have w8 : IntKind.i64.wrap (((da.length + szE ex : Nat) : Int) + 8) = ((da.length + szE ex + 8 : Nat) : Int) := by rw [wrap_id (by omega) (by omega)]; omega
        have wat : IntKind.i64.wrap (at' + (da.length : Int)) = at' + (da.length : Int) := wrap_id (by omega) (by omega)
        have hbh : bh6 ex fg da = da.length + szE ex + if fg = true then 8 else 0 := by unfold bh6; omega
        rcases c2b with hfg | ⟨hfg, p1, p2, p3, p4⟩
        · subst hfg
          simp only [go_sem, ↓reduceIte, reduceCtorEq, upd_ne, back_new (no_at), Nat.reduceAdd, Nat.reduceEqDiff, Nat.reduceMul, Nat.reduceSub, Nat.reduceLeDiff, Nat.reduceLT, Int.reduceToNat, Int.reduceLE, Int.reduceLT, Int.reduceEq, UInt8.reduceOfNat, hfr, hto, Nxt, exIf, List.length_map]
          refine while_rule (fun k q => ∃ i : Nat, q = ([.int .i64 0, .int .i64 (i : Int)], noSlots) ∧ i + k = ex.length ∧ fB (decide (i = 0)) (ex.drop i) = fB true ex) ex.length ⟨0, rfl, by simp, by simp⟩ ?_
          rintro k q ⟨i, rfl, hi, hr⟩
          simp only [go_sem, ↓reduceIte, reduceCtorEq, upd_ne, back_new (no_at), Nat.reduceAdd, Nat.reduceEqDiff, Nat.reduceMul, Nat.reduceSub, Nat.reduceLeDiff, Nat.reduceLT, Int.reduceToNat, Int.reduceLE, Int.reduceLT, Int.reduceEq, UInt8.reduceOfNat, hfr, hto, List.length_map]
          refine nxt_ite (fun h => ?_) (fun h => ?_)
          · have hlt : i < ex.length := by omega
            obtain ⟨e, he⟩ : ∃ e, ex[i]? = some e := ⟨ex[i], by simp [hlt]⟩
            have hd := drop_ex he
            have heb := sm.b e (List.mem_of_getElem? he)
            have e1 : IntKind.i64.wrap ((i : Int) + 1) = ((i + 1 : Nat) : Int) := by rw [wrap_id (by omega) (by omega)]; omega
            have e3 : IntKind.i64.wrap ((e.2.length : Int) + 2) = ((e.2.length + 2 : Nat) : Int) := by rw [wrap_id (by omega) (by omega)]; omega
            have hbad : ¬ fE1 (decide (i = 0)) e → ¬ fm6' ex true id at' mo da := fun q p => by
              have hf : fB true ex = false := by rw [← hr, hd]; simp only [fB, decide_eq_false q, Bool.false_and]
              have := p.1; rw [hf] at this; simp at this
            have hgood : fE1 (decide (i = 0)) e → fB (decide (i + 1 = 0)) (ex.drop (i + 1)) = fB true ex := fun q => by
              rw [← hr, hd]; simp only [fB, decide_eq_true q, Bool.true_and]
              rw [show decide (i + 1 = 0) = false from decide_eq_false (by omega)]
            by_cases f1 : e.2.length % 8 = 6
            · have g1 : (((e.2.length + 2) % 8 : Nat) : Int) = 0 := by omega
              have g0 : ¬ ((e.2.length + 2 : Nat) : Int) < 8 := by omega
              by_cases f2 : e.2.length ≤ 2046
              · have g2 : ¬ 2048 < ((e.2.length + 2 : Nat) : Int) := by omega
                by_cases f3 : e.1 = 0
                · by_cases f4 : i = 0
                  · have g4 : ¬ 0 < (i : Int) := by omega
                    simp only [go_sem, ↓reduceIte, reduceCtorEq, upd_ne, back_new (no_at), Nat.reduceAdd, Nat.reduceEqDiff, Nat.reduceMul, Nat.reduceSub, Nat.reduceLeDiff, Nat.reduceLT, Int.reduceToNat, Int.reduceLE, Int.reduceLT, Int.reduceEq, UInt8.reduceOfNat, List.getElem?_map, Int.toNat_natCast, he, e1, e2, e3, g0, g1, g2, f3, g4, hfr, hto]
                    exact ⟨k - 1, by omega, i + 1, rfl, by omega, hgood ⟨f1, f2, fun _ => decide_eq_true f4⟩⟩
                  · have g4 : 0 < (i : Int) := by omega
                    rw [if_neg (hbad fun q => f4 (of_decide_eq_true (q.2.2 f3)))]
                    simp only [go_sem, ↓reduceIte, reduceCtorEq, upd_ne, back_new (no_at), Nat.reduceAdd, Nat.reduceEqDiff, Nat.reduceMul, Nat.reduceSub, Nat.reduceLeDiff, Nat.reduceLT, Int.reduceToNat, Int.reduceLE, Int.reduceLT, Int.reduceEq, UInt8.reduceOfNat, List.getElem?_map, Int.toNat_natCast, he, e1, e2, e3, g0, g1, g2, f3, g4, hfr, hto, Nxt, exIf]
                · simp only [go_sem, ↓reduceIte, reduceCtorEq, upd_ne, back_new (no_at), Nat.reduceAdd, Nat.reduceEqDiff, Nat.reduceMul, Nat.reduceSub, Nat.reduceLeDiff, Nat.reduceLT, Int.reduceToNat, Int.reduceLE, Int.reduceLT, Int.reduceEq, UInt8.reduceOfNat, List.getElem?_map, Int.toNat_natCast, he, e1, e2, e3, g0, g1, g2, f3, hfr, hto]
                  exact ⟨k - 1, by omega, i + 1, rfl, by omega, hgood ⟨f1, f2, fun q => absurd q f3⟩⟩
              · have g2 : 2048 < ((e.2.length + 2 : Nat) : Int) := by omega
                rw [if_neg (hbad fun q => f2 q.2.1)]
                simp only [go_sem, ↓reduceIte, reduceCtorEq, upd_ne, back_new (no_at), Nat.reduceAdd, Nat.reduceEqDiff, Nat.reduceMul, Nat.reduceSub, Nat.reduceLeDiff, Nat.reduceLT, Int.reduceToNat, Int.reduceLE, Int.reduceLT, Int.reduceEq, UInt8.reduceOfNat, List.getElem?_map, Int.toNat_natCast, he, e1, e2, e3, g0, g1, g2, hfr, hto, Nxt, exIf]
            · rw [if_neg (hbad fun q => f1 q.1)]
              by_cases g0 : ((e.2.length + 2 : Nat) : Int) < 8
              · simp only [go_sem, ↓reduceIte, reduceCtorEq, upd_ne, back_new (no_at), Nat.reduceAdd, Nat.reduceEqDiff, Nat.reduceMul, Nat.reduceSub, Nat.reduceLeDiff, Nat.reduceLT, Int.reduceToNat, Int.reduceLE, Int.reduceLT, Int.reduceEq, UInt8.reduceOfNat, List.getElem?_map, Int.toNat_natCast, he, e1, e2, e3, g0, hfr, hto, Nxt, exIf]
              · have g1 : ¬ (((e.2.length + 2) % 8 : Nat) : Int) = 0 := by omega
                simp only [go_sem, ↓reduceIte, reduceCtorEq, upd_ne, back_new (no_at), Nat.reduceAdd, Nat.reduceEqDiff, Nat.reduceMul, Nat.reduceSub, Nat.reduceLeDiff, Nat.reduceLT, Int.reduceToNat, Int.reduceLE, Int.reduceLT, Int.reduceEq, UInt8.reduceOfNat, List.getElem?_map, Int.toNat_natCast, he, e1, e2, e3, g0, g1, hfr, hto, Nxt, exIf]
          · rw [List.drop_eq_nil_of_le (by omega)] at hr
            have hkf : fB true ex = true := by rw [← hr]; cases decide (i = 0) <;> rfl
            by_cases c3 : pc6 mo da
            · have c3' : fm6' ex true id at' mo da := ⟨hkf, by rw [if_pos rfl]; exact c3⟩
              rw [if_pos c3']
              have hmo : mo = false ∨ (mo = true ∧ ¬ (da.length : Int) = 0 ∧ ((da.length % 8 : Nat) : Int) = 0) := by
                cases mo
                · exact Or.inl rfl
                · have := c3 rfl; exact Or.inr ⟨rfl, by omega, by omega⟩
              rw [hbh, if_pos rfl]
              rcases hmo with hmo | ⟨hmo, m1, m2⟩
              · subst hmo
                by_cases t1 : ex.length ≤ 8
                · have t1' : ¬ 8 < (ex.length : Int) := by omega
                  by_cases t2 : at' + (da.length : Int) ≤ 65535
                  · have t2' : ¬ 65535 < at' + (da.length : Int) := by omega
                    by_cases t3 : da.length + szE ex + 8 ≤ 65535
                    · have t3' : ¬ (65535 : Int) < ((da.length + szE ex + 8 : Nat) : Int) := by omega
                      simp only [go_sem, ↓reduceIte, reduceCtorEq, upd_ne, back_new (no_at), Nat.reduceAdd, Nat.reduceEqDiff, Nat.reduceMul, Nat.reduceSub, Nat.reduceLeDiff, Nat.reduceLT, Int.reduceToNat, Int.reduceLE, Int.reduceLT, Int.reduceEq, UInt8.reduceOfNat, hfr, hto, Nxt, exIf, e2, w8, wat, t1, t1', t2, t2', t3, t3', List.length_map, Nat.add_zero]
                    · have t3' : (65535 : Int) < ((da.length + szE ex + 8 : Nat) : Int) := by omega
                      simp only [go_sem, ↓reduceIte, reduceCtorEq, upd_ne, back_new (no_at), Nat.reduceAdd, Nat.reduceEqDiff, Nat.reduceMul, Nat.reduceSub, Nat.reduceLeDiff, Nat.reduceLT, Int.reduceToNat, Int.reduceLE, Int.reduceLT, Int.reduceEq, UInt8.reduceOfNat, hfr, hto, Nxt, exIf, e2, w8, wat, t1, t1', t2, t2', t3, t3', List.length_map, Nat.add_zero]
                  · have t2' : 65535 < at' + (da.length : Int) := by omega
                    simp only [go_sem, ↓reduceIte, reduceCtorEq, upd_ne, back_new (no_at), Nat.reduceAdd, Nat.reduceEqDiff, Nat.reduceMul, Nat.reduceSub, Nat.reduceLeDiff, Nat.reduceLT, Int.reduceToNat, Int.reduceLE, Int.reduceLT, Int.reduceEq, UInt8.reduceOfNat, hfr, hto, Nxt, exIf, e2, w8, wat, t1, t1', t2, t2', List.length_map, Nat.add_zero]
                · have t1' : 8 < (ex.length : Int) := by omega
                  simp only [go_sem, ↓reduceIte, reduceCtorEq, upd_ne, back_new (no_at), Nat.reduceAdd, Nat.reduceEqDiff, Nat.reduceMul, Nat.reduceSub, Nat.reduceLeDiff, Nat.reduceLT, Int.reduceToNat, Int.reduceLE, Int.reduceLT, Int.reduceEq, UInt8.reduceOfNat, hfr, hto, Nxt, exIf, e2, w8, wat, t1, t1', List.length_map, Nat.add_zero]
              · subst hmo
                by_cases t1 : ex.length ≤ 8
                · have t1' : ¬ 8 < (ex.length : Int) := by omega
                  by_cases t2 : at' + (da.length : Int) ≤ 65535
                  · have t2' : ¬ 65535 < at' + (da.length : Int) := by omega
                    by_cases t3 : da.length + szE ex + 8 ≤ 65535
                    · have t3' : ¬ (65535 : Int) < ((da.length + szE ex + 8 : Nat) : Int) := by omega
                      simp only [go_sem, ↓reduceIte, reduceCtorEq, upd_ne, back_new (no_at), Nat.reduceAdd, Nat.reduceEqDiff, Nat.reduceMul, Nat.reduceSub, Nat.reduceLeDiff, Nat.reduceLT, Int.reduceToNat, Int.reduceLE, Int.reduceLT, Int.reduceEq, UInt8.reduceOfNat, hfr, hto, Nxt, exIf, e2, m1, m2, w8, wat, t1, t1', t2, t2', t3, t3', List.length_map, Nat.add_zero]
                    · have t3' : (65535 : Int) < ((da.length + szE ex + 8 : Nat) : Int) := by omega
                      simp only [go_sem, ↓reduceIte, reduceCtorEq, upd_ne, back_new (no_at), Nat.reduceAdd, Nat.reduceEqDiff, Nat.reduceMul, Nat.reduceSub, Nat.reduceLeDiff, Nat.reduceLT, Int.reduceToNat, Int.reduceLE, Int.reduceLT, Int.reduceEq, UInt8.reduceOfNat, hfr, hto, Nxt, exIf, e2, m1, m2, w8, wat, t1, t1', t2, t2', t3, t3', List.length_map, Nat.add_zero]
                  · have t2' : 65535 < at' + (da.length : Int) := by omega
                    simp only [go_sem, ↓reduceIte, reduceCtorEq, upd_ne, back_new (no_at), Nat.reduceAdd, Nat.reduceEqDiff, Nat.reduceMul, Nat.reduceSub, Nat.reduceLeDiff, Nat.reduceLT, Int.reduceToNat, Int.reduceLE, Int.reduceLT, Int.reduceEq, UInt8.reduceOfNat, hfr, hto, Nxt, exIf, e2, m1, m2, w8, wat, t1, t1', t2, t2', List.length_map, Nat.add_zero]
                · have t1' : 8 < (ex.length : Int) := by omega
                  simp only [go_sem, ↓reduceIte, reduceCtorEq, upd_ne, back_new (no_at), Nat.reduceAdd, Nat.reduceEqDiff, Nat.reduceMul, Nat.reduceSub, Nat.reduceLeDiff, Nat.reduceLT, Int.reduceToNat, Int.reduceLE, Int.reduceLT, Int.reduceEq, UInt8.reduceOfNat, hfr, hto, Nxt, exIf, e2, m1, m2, w8, wat, t1, t1', List.length_map, Nat.add_zero]
            · have c3' : ¬ fm6' ex true id at' mo da := fun h => by have := h.2; rw [if_pos rfl] at this; exact c3 this
              rw [if_neg c3']
              have hmo : mo = true := by cases mo; exact absurd (fun h => by simp at h) c3; rfl
              subst hmo
              by_cases m1 : da.length = 0
              · have m1' : (da.length : Int) = 0 := by omega
                simp only [go_sem, ↓reduceIte, reduceCtorEq, upd_ne, back_new (no_at), Nat.reduceAdd, Nat.reduceEqDiff, Nat.reduceMul, Nat.reduceSub, Nat.reduceLeDiff, Nat.reduceLT, Int.reduceToNat, Int.reduceLE, Int.reduceLT, Int.reduceEq, UInt8.reduceOfNat, hfr, hto, Nxt, exIf, e2, m1']
              · have m1' : ¬ (da.length : Int) = 0 := by omega
                have m2 : ¬ ((da.length % 8 : Nat) : Int) = 0 := fun h => c3 fun _ => ⟨m1, by omega⟩
                simp only [go_sem, ↓reduceIte, reduceCtorEq, upd_ne, back_new (no_at), Nat.reduceAdd, Nat.reduceEqDiff, Nat.reduceMul, Nat.reduceSub, Nat.reduceLeDiff, Nat.reduceLT, Int.reduceToNat, Int.reduceLE, Int.reduceLT, Int.reduceEq, UInt8.reduceOfNat, hfr, hto, Nxt, exIf, e2, m1', m2]
        · subst hfg
          simp only [go_sem, ↓reduceIte, reduceCtorEq, upd_ne, back_new (no_at), Nat.reduceAdd, Nat.reduceEqDiff, Nat.reduceMul, Nat.reduceSub, Nat.reduceLeDiff, Nat.reduceLT, Int.reduceToNat, Int.reduceLE, Int.reduceLT, Int.reduceEq, UInt8.reduceOfNat, hfr, hto, Nxt, exIf, p1, p2, p3, p4, List.length_map]
          refine while_rule (fun k q => ∃ i : Nat, q = ([.int .i64 0, .int .i64 (i : Int)], noSlots) ∧ i + k = ex.length ∧ fB (decide (i = 0)) (ex.drop i) = fB true ex) ex.length ⟨0, rfl, by simp, by simp⟩ ?_
          rintro k q ⟨i, rfl, hi, hr⟩
          simp only [go_sem, ↓reduceIte, reduceCtorEq, upd_ne, back_new (no_at), Nat.reduceAdd, Nat.reduceEqDiff, Nat.reduceMul, Nat.reduceSub, Nat.reduceLeDiff, Nat.reduceLT, Int.reduceToNat, Int.reduceLE, Int.reduceLT, Int.reduceEq, UInt8.reduceOfNat, hfr, hto, List.length_map]
          refine nxt_ite (fun h => ?_) (fun h => ?_)
          · have hlt : i < ex.length := by omega
            obtain ⟨e, he⟩ : ∃ e, ex[i]? = some e := ⟨ex[i], by simp [hlt]⟩
            have hd := drop_ex he
            have heb := sm.b e (List.mem_of_getElem? he)
            have e1 : IntKind.i64.wrap ((i : Int) + 1) = ((i + 1 : Nat) : Int) := by rw [wrap_id (by omega) (by omega)]; omega
            have e3 : IntKind.i64.wrap ((e.2.length : Int) + 2) = ((e.2.length + 2 : Nat) : Int) := by rw [wrap_id (by omega) (by omega)]; omega
            have hbad : ¬ fE1 (decide (i = 0)) e → ¬ fm6' ex false id at' mo da := fun q p => by
              have hf : fB true ex = false := by rw [← hr, hd]; simp only [fB, decide_eq_false q, Bool.false_and]
              have := p.1; rw [hf] at this; simp at this
            have hgood : fE1 (decide (i = 0)) e → fB (decide (i + 1 = 0)) (ex.drop (i + 1)) = fB true ex := fun q => by
              rw [← hr, hd]; simp only [fB, decide_eq_true q, Bool.true_and]
              rw [show decide (i + 1 = 0) = false from decide_eq_false (by omega)]
            by_cases f1 : e.2.length % 8 = 6
            · have g1 : (((e.2.length + 2) % 8 : Nat) : Int) = 0 := by omega
              have g0 : ¬ ((e.2.length + 2 : Nat) : Int) < 8 := by omega
              by_cases f2 : e.2.length ≤ 2046
              · have g2 : ¬ 2048 < ((e.2.length + 2 : Nat) : Int) := by omega
                by_cases f3 : e.1 = 0
                · by_cases f4 : i = 0
                  · have g4 : ¬ 0 < (i : Int) := by omega
                    simp only [go_sem, ↓reduceIte, reduceCtorEq, upd_ne, back_new (no_at), Nat.reduceAdd, Nat.reduceEqDiff, Nat.reduceMul, Nat.reduceSub, Nat.reduceLeDiff, Nat.reduceLT, Int.reduceToNat, Int.reduceLE, Int.reduceLT, Int.reduceEq, UInt8.reduceOfNat, List.getElem?_map, Int.toNat_natCast, he, e1, e2, e3, g0, g1, g2, f3, g4, hfr, hto]
                    exact ⟨k - 1, by omega, i + 1, rfl, by omega, hgood ⟨f1, f2, fun _ => decide_eq_true f4⟩⟩
                  · have g4 : 0 < (i : Int) := by omega
                    rw [if_neg (hbad fun q => f4 (of_decide_eq_true (q.2.2 f3)))]
                    simp only [go_sem, ↓reduceIte, reduceCtorEq, upd_ne, back_new (no_at), Nat.reduceAdd, Nat.reduceEqDiff, Nat.reduceMul, Nat.reduceSub, Nat.reduceLeDiff, Nat.reduceLT, Int.reduceToNat, Int.reduceLE, Int.reduceLT, Int.reduceEq, UInt8.reduceOfNat, List.getElem?_map, Int.toNat_natCast, he, e1, e2, e3, g0, g1, g2, f3, g4, hfr, hto, Nxt, exIf]
                · simp only [go_sem, ↓reduceIte, reduceCtorEq, upd_ne, back_new (no_at), Nat.reduceAdd, Nat.reduceEqDiff, Nat.reduceMul, Nat.reduceSub, Nat.reduceLeDiff, Nat.reduceLT, Int.reduceToNat, Int.reduceLE, Int.reduceLT, Int.reduceEq, UInt8.reduceOfNat, List.getElem?_map, Int.toNat_natCast, he, e1, e2, e3, g0, g1, g2, f3, hfr, hto]
                  exact ⟨k - 1, by omega, i + 1, rfl, by omega, hgood ⟨f1, f2, fun q => absurd q f3⟩⟩
              · have g2 : 2048 < ((e.2.length + 2 : Nat) : Int) := by omega
                rw [if_neg (hbad fun q => f2 q.2.1)]
                simp only [go_sem, ↓reduceIte, reduceCtorEq, upd_ne, back_new (no_at), Nat.reduceAdd, Nat.reduceEqDiff, Nat.reduceMul, Nat.reduceSub, Nat.reduceLeDiff, Nat.reduceLT, Int.reduceToNat, Int.reduceLE, Int.reduceLT, Int.reduceEq, UInt8.reduceOfNat, List.getElem?_map, Int.toNat_natCast, he, e1, e2, e3, g0, g1, g2, hfr, hto, Nxt, exIf]
            · rw [if_neg (hbad fun q => f1 q.1)]
              by_cases g0 : ((e.2.length + 2 : Nat) : Int) < 8
              · simp only [go_sem, ↓reduceIte, reduceCtorEq, upd_ne, back_new (no_at), Nat.reduceAdd, Nat.reduceEqDiff, Nat.reduceMul, Nat.reduceSub, Nat.reduceLeDiff, Nat.reduceLT, Int.reduceToNat, Int.reduceLE, Int.reduceLT, Int.reduceEq, UInt8.reduceOfNat, List.getElem?_map, Int.toNat_natCast, he, e1, e2, e3, g0, hfr, hto, Nxt, exIf]
              · have g1 : ¬ (((e.2.length + 2) % 8 : Nat) : Int) = 0 := by omega
                simp only [go_sem, ↓reduceIte, reduceCtorEq, upd_ne, back_new (no_at), Nat.reduceAdd, Nat.reduceEqDiff, Nat.reduceMul, Nat.reduceSub, Nat.reduceLeDiff, Nat.reduceLT, Int.reduceToNat, Int.reduceLE, Int.reduceLT, Int.reduceEq, UInt8.reduceOfNat, List.getElem?_map, Int.toNat_natCast, he, e1, e2, e3, g0, g1, hfr, hto, Nxt, exIf]
          · rw [List.drop_eq_nil_of_le (by omega)] at hr
            have hkf : fB true ex = true := by rw [← hr]; cases decide (i = 0) <;> rfl
            by_cases d1 : id = 0
            · by_cases d2 : at' = 0
              · cases mo
                · have c3' : fm6' ex false id at' false da := ⟨hkf, by rw [if_neg Bool.false_ne_true]; exact ⟨d1, d2, rfl⟩⟩
                  rw [if_pos c3', hbh, if_neg Bool.false_ne_true]
                  subst d1
                  subst d2
                  by_cases t1 : ex.length ≤ 8
                  · have t1' : ¬ 8 < (ex.length : Int) := by omega
                    by_cases t2 : 0 + (da.length : Int) ≤ 65535
                    · have t2' : ¬ 65535 < 0 + (da.length : Int) := by omega
                      by_cases t3 : da.length + szE ex ≤ 65535
                      · have t3' : ¬ (65535 : Int) < ((da.length + szE ex : Nat) : Int) := by omega
                        simp only [go_sem, ↓reduceIte, reduceCtorEq, upd_ne, back_new (no_at), Nat.reduceAdd, Nat.reduceEqDiff, Nat.reduceMul, Nat.reduceSub, Nat.reduceLeDiff, Nat.reduceLT, Int.reduceToNat, Int.reduceLE, Int.reduceLT, Int.reduceEq, UInt8.reduceOfNat, hfr, hto, Nxt, exIf, e2, w8, wat, t1, t1', t2, t2', t3, t3', List.length_map, Nat.add_zero]
                      · have t3' : (65535 : Int) < ((da.length + szE ex : Nat) : Int) := by omega
                        simp only [go_sem, ↓reduceIte, reduceCtorEq, upd_ne, back_new (no_at), Nat.reduceAdd, Nat.reduceEqDiff, Nat.reduceMul, Nat.reduceSub, Nat.reduceLeDiff, Nat.reduceLT, Int.reduceToNat, Int.reduceLE, Int.reduceLT, Int.reduceEq, UInt8.reduceOfNat, hfr, hto, Nxt, exIf, e2, w8, wat, t1, t1', t2, t2', t3, t3', List.length_map, Nat.add_zero]
                    · have t2' : 65535 < 0 + (da.length : Int) := by omega
                      simp only [go_sem, ↓reduceIte, reduceCtorEq, upd_ne, back_new (no_at), Nat.reduceAdd, Nat.reduceEqDiff, Nat.reduceMul, Nat.reduceSub, Nat.reduceLeDiff, Nat.reduceLT, Int.reduceToNat, Int.reduceLE, Int.reduceLT, Int.reduceEq, UInt8.reduceOfNat, hfr, hto, Nxt, exIf, e2, w8, wat, t1, t1', t2, t2', List.length_map, Nat.add_zero]
                  · have t1' : 8 < (ex.length : Int) := by omega
                    simp only [go_sem, ↓reduceIte, reduceCtorEq, upd_ne, back_new (no_at), Nat.reduceAdd, Nat.reduceEqDiff, Nat.reduceMul, Nat.reduceSub, Nat.reduceLeDiff, Nat.reduceLT, Int.reduceToNat, Int.reduceLE, Int.reduceLT, Int.reduceEq, UInt8.reduceOfNat, hfr, hto, Nxt, exIf, e2, w8, wat, t1, t1', List.length_map, Nat.add_zero]
                · have c3' : ¬ fm6' ex false id at' true da := fun h => by have := h.2; rw [if_neg Bool.false_ne_true] at this; simp at this
                  rw [if_neg c3']
                  simp only [go_sem, ↓reduceIte, reduceCtorEq, upd_ne, back_new (no_at), Nat.reduceAdd, Nat.reduceEqDiff, Nat.reduceMul, Nat.reduceSub, Nat.reduceLeDiff, Nat.reduceLT, Int.reduceToNat, Int.reduceLE, Int.reduceLT, Int.reduceEq, UInt8.reduceOfNat, hfr, hto, Nxt, exIf, e2, d1, d2]
              · have c3' : ¬ fm6' ex false id at' mo da := fun h => by have := h.2; rw [if_neg Bool.false_ne_true] at this; exact d2 this.2.1
                rw [if_neg c3']
                simp only [go_sem, ↓reduceIte, reduceCtorEq, upd_ne, back_new (no_at), Nat.reduceAdd, Nat.reduceEqDiff, Nat.reduceMul, Nat.reduceSub, Nat.reduceLeDiff, Nat.reduceLT, Int.reduceToNat, Int.reduceLE, Int.reduceLT, Int.reduceEq, UInt8.reduceOfNat, hfr, hto, Nxt, exIf, e2, d1, d2]
            · have c3' : ¬ fm6' ex false id at' mo da := fun h => by have := h.2; rw [if_neg Bool.false_ne_true] at this; exact d1 this.1
              rw [if_neg c3']
              simp only [go_sem, ↓reduceIte, reduceCtorEq, upd_ne, back_new (no_at), Nat.reduceAdd, Nat.reduceEqDiff, Nat.reduceMul, Nat.reduceSub, Nat.reduceLeDiff, Nat.reduceLT, Int.reduceToNat, Int.reduceLE, Int.reduceLT, Int.reduceEq, UInt8.reduceOfNat, hfr, hto, Nxt, exIf, e2, d1]
      · obtain ⟨hfg, hp⟩ := bad c2
        rw [if_neg c2]
        subst hfg
        by_cases p1 : pt = 0
        · subst p1; simp only [go_sem, ↓reduceIte, reduceCtorEq, upd_ne, back_new (no_at), Nat.reduceAdd, Nat.reduceEqDiff, Nat.reduceMul, Nat.reduceSub, Nat.reduceLeDiff, Nat.reduceLT, Int.reduceToNat, Int.reduceLE, Int.reduceLT, Int.reduceEq, UInt8.reduceOfNat, hfr, hto, Nxt, exIf]
        · by_cases p2 : pt = 43
          · subst p2; simp only [go_sem, ↓reduceIte, reduceCtorEq, upd_ne, back_new (no_at), Nat.reduceAdd, Nat.reduceEqDiff, Nat.reduceMul, Nat.reduceSub, Nat.reduceLeDiff, Nat.reduceLT, Int.reduceToNat, Int.reduceLE, Int.reduceLT, Int.reduceEq, UInt8.reduceOfNat, hfr, hto, Nxt, exIf]
          · by_cases p3 : pt = 44
            · subst p3; simp only [go_sem, ↓reduceIte, reduceCtorEq, upd_ne, back_new (no_at), Nat.reduceAdd, Nat.reduceEqDiff, Nat.reduceMul, Nat.reduceSub, Nat.reduceLeDiff, Nat.reduceLT, Int.reduceToNat, Int.reduceLE, Int.reduceLT, Int.reduceEq, UInt8.reduceOfNat, hfr, hto, Nxt, exIf]
            · have p4 : pt = 60 := by
                rcases hp with ((h | h) | h) | h
                · exact absurd h p1
                · exact absurd h p2
                · exact h
                · exact absurd h p3
              subst p4; simp only [go_sem, ↓reduceIte, reduceCtorEq, upd_ne, back_new (no_at), Nat.reduceAdd, Nat.reduceEqDiff, Nat.reduceMul, Nat.reduceSub, Nat.reduceLeDiff, Nat.reduceLT, Int.reduceToNat, Int.reduceLE, Int.reduceLT, Int.reduceEq, UInt8.reduceOfNat, hfr, hto, Nxt, exIf]
  · rw [if_neg c1]
    by_cases b1 : 0 ≤ cl ∧ cl ≤ 255
    · by_cases b2 : 0 ≤ fl ∧ fl ≤ 1048575
      · by_cases b3 : 0 ≤ ho ∧ ho ≤ 255
        · by_cases b4 : 0 ≤ pt ∧ pt ≤ 255
          · by_cases b5 : 0 ≤ at' ∧ at' ≤ 65528
            · have b6 : ¬ Int.tmod at' 8 = 0 := fun h => c1 ⟨b1, b2, b3, b4, b5, h⟩
              simp only [go_sem, ↓reduceIte, reduceCtorEq, upd_ne, back_new (no_at), Nat.reduceAdd, Nat.reduceEqDiff, Nat.reduceMul, Nat.reduceSub, Nat.reduceLeDiff, Nat.reduceLT, Int.reduceToNat, Int.reduceLE, Int.reduceLT, Int.reduceEq, UInt8.reduceOfNat, hw, hfr, hto, decide_eq_true b1, decide_eq_true b2, decide_eq_true b3, decide_eq_true b4, decide_eq_true b5, b6]
            · simp only [go_sem, ↓reduceIte, reduceCtorEq, upd_ne, back_new (no_at), Nat.reduceAdd, Nat.reduceEqDiff, Nat.reduceMul, Nat.reduceSub, Nat.reduceLeDiff, Nat.reduceLT, Int.reduceToNat, Int.reduceLE, Int.reduceLT, Int.reduceEq, UInt8.reduceOfNat, hw, hfr, hto, decide_eq_true b1, decide_eq_true b2, decide_eq_true b3, decide_eq_true b4, decide_eq_false b5]
          · simp only [go_sem, ↓reduceIte, reduceCtorEq, upd_ne, back_new (no_at), Nat.reduceAdd, Nat.reduceEqDiff, Nat.reduceMul, Nat.reduceSub, Nat.reduceLeDiff, Nat.reduceLT, Int.reduceToNat, Int.reduceLE, Int.reduceLT, Int.reduceEq, UInt8.reduceOfNat, hw, hfr, hto, decide_eq_true b1, decide_eq_true b2, decide_eq_true b3, decide_eq_false b4]
        · simp only [go_sem, ↓reduceIte, reduceCtorEq, upd_ne, back_new (no_at), Nat.reduceAdd, Nat.reduceEqDiff, Nat.reduceMul, Nat.reduceSub, Nat.reduceLeDiff, Nat.reduceLT, Int.reduceToNat, Int.reduceLE, Int.reduceLT, Int.reduceEq, UInt8.reduceOfNat, hw, hfr, hto, decide_eq_true b1, decide_eq_true b2, decide_eq_false b3]
      · simp only [go_sem, ↓reduceIte, reduceCtorEq, upd_ne, back_new (no_at), Nat.reduceAdd, Nat.reduceEqDiff, Nat.reduceMul, Nat.reduceSub, Nat.reduceLeDiff, Nat.reduceLT, Int.reduceToNat, Int.reduceLE, Int.reduceLT, Int.reduceEq, UInt8.reduceOfNat, hw, hfr, hto, decide_eq_true b1, decide_eq_false b2]
    · simp only [go_sem, ↓reduceIte, reduceCtorEq, upd_ne, back_new (no_at), Nat.reduceAdd, Nat.reduceEqDiff, Nat.reduceMul, Nat.reduceSub, Nat.reduceLeDiff, Nat.reduceLT, Int.reduceToNat, Int.reduceLE, Int.reduceLT, Int.reduceEq, UInt8.reduceOfNat, hw, hfr, hto, decide_eq_false b1]
end
end Go.Ev
