/- Part 5 of a proof: what the functions yield. It stands by itself; no condition. -/
import Derived.Test.YtdoodlfmmjglcaaE2
import Derived.Test.YtdoodlfmmjglcaaE4
namespace Go.Ev
set_option linter.unusedSimpArgs false
set_option linter.unusedVariables false
set_option maxRecDepth 4000
set_option maxHeartbeats 2000000
def sumAt : Nat → List UInt8 → Nat
  | _, [] => 0
  | p, c :: s => (if p % 2 = 0 then c.toNat * 256 else c.toNat) + sumAt (p + 1) s
theorem sumAt_append : ∀ (a b : List UInt8) (p : Nat), sumAt p (a ++ b) = sumAt p a + sumAt (p + a.length) b
  | [], b, p => by simp [sumAt]
  | c :: a, b, p => by
    simp only [List.cons_append, sumAt, sumAt_append a b (p + 1), List.length_cons]
    rw [show p + 1 + a.length = p + (a.length + 1) by omega]
    omega
theorem sumAt_le : ∀ (s : List UInt8) (p : Nat), sumAt p s ≤ 65280 * s.length
  | [], p => by simp [sumAt]
  | c :: s, p => by
    have := sumAt_le s (p + 1)
    have hc := c.toNat_lt
    simp only [sumAt, List.length_cons]
    split <;> omega
theorem sumAt_two : ∀ (s : List UInt8) (p : Nat), sumAt (p + 2) s = sumAt p s
  | [], p => rfl
  | c :: s, p => by
    simp only [sumAt]
    rw [show p + 2 + 1 = p + 1 + 2 by omega, sumAt_two s (p + 1), show (p + 2) % 2 = p % 2 by omega]
def ones (n : Nat) : Nat := if n = 0 then 0 else (n - 1) % 65535 + 1
theorem ones_le (n : Nat) : ones n ≤ 65535 := by unfold ones; split <;> omega
theorem ones_small {n : Nat} (h : n ≤ 65535) : ones n = n := by unfold ones; split <;> omega
theorem ones_step {n : Nat} (h : 65535 < n) : ones (n / 65536 + n % 65536) = ones n := by
  unfold ones
  rw [if_neg (by omega), if_neg (by omega)]
  omega
theorem ones_add (a b : Nat) : ones (ones a + b) = ones (a + b) := by
  unfold ones
  by_cases h : a = 0
  · subst h; simp
  · rw [if_neg h, if_neg (by omega), if_neg (by omega)]
    omega
theorem ones_zero {n : Nat} : ones n = 0 ↔ n = 0 := by unfold ones; split <;> omega
def wordsN : List UInt8 → List Nat
  | [] => []
  | [a] => [256 * a.toNat]
  | a :: b :: s => (256 * a.toNat + b.toNat) :: wordsN s
theorem wordsN_len : ∀ (s : List UInt8), (wordsN s).length = (s.length + 1) / 2
  | [] => rfl
  | [a] => by simp [wordsN]
  | a :: b :: s => by simp only [wordsN, List.length_cons, wordsN_len s]; omega
theorem wordsN_sum : ∀ (s : List UInt8), (wordsN s).sum = sumAt 0 s
  | [] => rfl
  | [a] => by simp [wordsN, sumAt]; omega
  | a :: b :: s => by
    simp only [wordsN, sumAt, List.sum_cons, wordsN_sum s]
    rw [show (0 + 1 + 1 : Nat) = 0 + 2 by rfl, sumAt_two]
    simp
    omega
theorem wordsN_le : ∀ (s : List UInt8), ∀ w ∈ wordsN s, w ≤ 65535
  | [], w, h => by simp [wordsN] at h
  | [a], w, h => by
    have := a.toNat_lt
    simp [wordsN] at h; omega
  | a :: b :: s, w, h => by
    have := a.toNat_lt
    have := b.toNat_lt
    simp only [wordsN, List.mem_cons] at h
    rcases h with h | h
    · omega
    · exact wordsN_le s w h
theorem wordsN_take : ∀ (s : List UInt8) (i : Nat) (a b : UInt8), s[2 * i]? = some a → s[2 * i + 1]? = some b → wordsN (s.take (2 * (i + 1))) = wordsN (s.take (2 * i)) ++ [256 * a.toNat + b.toNat]
  | [], i, a, b, h, _ => by simp at h
  | [c], 0, a, b, h, h2 => by simp at h2
  | [c], i + 1, a, b, h, _ => by simp at h
  | c :: d :: s, 0, a, b, h, h2 => by
    simp at h h2
    subst h h2
    rfl
  | c :: d :: s, i + 1, a, b, h, h2 => by
    have h' : s[2 * i]? = some a := by rw [← h, show 2 * (i + 1) = 2 * i + 1 + 1 by omega]; simp
    have h2' : s[2 * i + 1]? = some b := by rw [← h2, show 2 * (i + 1) + 1 = 2 * i + 1 + 1 + 1 by omega]; simp
    have ih := wordsN_take s i a b h' h2'
    rw [show 2 * (i + 1 + 1) = 2 * (i + 1) + 1 + 1 by omega, show 2 * (i + 1) = 2 * i + 1 + 1 by omega]
    simp only [List.take_succ_cons, wordsN, List.cons_append]
    rw [← ih]
    rfl
theorem wordsN_odd : ∀ (s : List UInt8), s.length % 2 = 1 → wordsN (s ++ [0]) = wordsN s
  | [], h => by simp at h
  | [a], h => by simp [wordsN]
  | a :: b :: s, h => by
    simp only [List.cons_append, wordsN]
    rw [wordsN_odd s (by simp only [List.length_cons] at h; omega)]
abbrev intsLV (l : List Nat) : List LV := l.map fun (w : Nat) => LV.int .i64 (w : Int)
theorem wAppend_tag {e by' d t g n sz : Nat} {sl : Slots} {l new : List LV} (hs : sl t = .tag g n sz) (hn : n = l.length) (hz : sz = e) (hl : (l.all fun v => decide (flatLen v = e)) = true) (hnew : (new.all fun v => decide (flatLen v = e)) = true) (hne : new ≠ []) (hb : (l.length + new.length) * by' ≤ 1099511627776) :
    wAppend e by' d sl (.lst (some (t, g)) l) (.lst none new) = some (.lst (some (t, g)) (l ++ new), upd sl t (.tag g (n + new.length) sz)) := by
  simp only [wAppend, newEls, hnew, if_true, Option.bind_some, hne, if_false, hs]
  rw [if_pos ⟨trivial, hn, hz, hl, hb⟩]
theorem ints_flat (l : List Nat) : ((intsLV l).all fun v => decide (flatLen v = 1)) = true := by
  rw [List.all_eq_true]
  intro v hv
  obtain ⟨w, _, rfl⟩ := List.mem_map.1 hv
  simp [flatLen]
def beB (n x : Nat) : List UInt8 := (List.range n).map fun i => UInt8.ofNat (x / 256 ^ (n - 1 - i))
theorem beB_len (n x : Nat) : (beB n x).length = n := by simp [beB]
theorem beB_get {n x i : Nat} (h : i < n) : (beB n x)[i]? = some (UInt8.ofNat (x / 256 ^ (n - 1 - i))) := by simp [beB, h]
theorem u8_wrap (y : Nat) : IntKind.u8.wrap (y : Int) = ((y % 256 : Nat) : Int) := by
  simp [IntKind.wrap, IntKind.bits, IntKind.signed]
theorem set_mid {b : List UInt8} {n i : Nat} {c : UInt8} (hb : b.length = n) (hi : i < n) (hc : b[i]? = some c) :
    (b.take i ++ List.replicate (n - i) 0).set i c = b.take (i + 1) ++ List.replicate (n - (i + 1)) 0 := by
  have e : List.replicate (n - i) (0 : UInt8) = 0 :: List.replicate (n - (i + 1)) 0 := by
    rw [show n - i = (n - (i + 1)) + 1 by omega, List.replicate_succ]
  rw [e, List.take_add_one, hc]
  have hl : (b.take i).length = i := by rw [List.length_take]; omega
  rw [List.set_append]
  rw [if_neg (by omega), hl]
  simp
def sumS (s : List UInt8) : Int := 65535 - (ones (sumAt 0 s) : Nat)
theorem sumS_le (s : List UInt8) : 0 ≤ sumS s ∧ sumS s ≤ 65535 := by
  have := ones_le (sumAt 0 s)
  unfold sumS
  omega
theorem ue_ag3 {c : Int} : LV.isAgg (faultLV c) = false := by unfold faultLV; exact Eq.trans rfl rfl
def fE (c : Int) : LV := if c = 0 then .nili else faultLV c
theorem fe_ag {c : Int} : LV.isAgg (fE c) = false := by unfold fE faultLV; split <;> exact Eq.trans rfl rfl
theorem fe_st {c : Int} : stor (fE c) = true := by unfold fE faultLV; split <;> exact Eq.trans rfl rfl
theorem fe_pl {c : Int} : plainRes (fE c) = true := by unfold fE faultLV; split <;> exact Eq.trans rfl rfl
theorem fe_fl {c : Int} : flatLen (fE c) = 1 := by unfold fE faultLV; split <;> simp only [flatLen]
theorem fe_ps {c : Int} : psl (fE c) = some (fE c) := by unfold fE faultLV; split <;> simp only [psl]
theorem fe_sv {c : Int} {sl : Slots} : sealV sl (fE c) = some (fE c) := by unfold fE faultLV; split <;> simp only [sealV, psl]
theorem fe_ov {c : Int} {sl : Slots} : outV none sl (fE c) = some (fE c) := by unfold fE faultLV; split <;> simp only [outV, sealV, psl]
attribute [go_sem ↓] fe_ag fe_st fe_pl fe_fl fe_ps fe_sv fe_ov
theorem toBytes_byteLV : ∀ l : List UInt8, toBytes (l.map byteLV) = some l
  | [] => by simp only [List.map_nil, toBytes]
  | a :: l => by
    show toBytes (.int .u8 (a.toNat : Int) :: l.map byteLV) = _
    rw [c_tb1, toBytes_byteLV l]
    simp [ob]
theorem lt1 {x : Int} (h : 0 ≤ x) (h1 : x < 256) : 0 ≤ x ∧ x < ((256 ^ 1 : Nat) : Int) := ⟨h, h1⟩
theorem lt2 {x : Int} (h : 0 ≤ x) (h1 : x < 65536) : 0 ≤ x ∧ x < ((256 ^ 2 : Nat) : Int) := ⟨h, h1⟩
theorem get_def {s : List UInt8} {i : Nat} (h : i < s.length) : s[i]? = some (s.getD i 0) := by
  rw [List.getD_eq_getElem?_getD, List.getElem?_eq_getElem h]; rfl
abbrev w16 (a b : UInt8) : Nat := 256 * a.toNat + b.toNat
theorem w16_or (a b : UInt8) : bitsOf .or .i64 (((a.toNat * 256 : Nat)) : Int) (b.toNat : Int) = ((w16 a b : Nat) : Int) := by
  have ha := a.toNat_lt
  have hb := b.toNat_lt
  rw [bits_or_nat (by simp [IntKind.max, IntKind.signed, IntKind.bits]; omega) (by simp [IntKind.max, IntKind.signed, IntKind.bits]; omega)]
  congr 1
  show _ = 256 * a.toNat + b.toNat
  rw [show a.toNat * 256 = a.toNat <<< 8 by rw [Nat.shiftLeft_eq], ← Nat.shiftLeft_add_eq_or_of_lt hb, Nat.shiftLeft_eq]
  simp only [Nat.reducePow]
  omega
def wAt (s : List UInt8) (i : Nat) : Nat := w16 (s.getD i 0) (s.getD (i + 1) 0)
theorem wAt_le (s : List UInt8) (i : Nat) : wAt s i ≤ 65535 := by
  have := (s.getD i 0).toNat_lt; have := (s.getD (i + 1) 0).toNat_lt
  unfold wAt w16; omega
def bAt (s : List UInt8) (i : Nat) : Nat := (s.getD i 0).toNat
theorem bAt_le (s : List UInt8) (i : Nat) : bAt s i ≤ 255 := by have := (s.getD i 0).toNat_lt; unfold bAt; omega
theorem e_cBslM {R : Type} {m d : Nat} {ps : List (Nat × LV)} {sl : Slots} {K2 : LV × Slots → Option R} : ob (cBslM m ps d sl) K2 = ob (putParts (.bytes (List.replicate m 0)) ps) fun v => ob (asBytes v) fun b => ob (cBytes b d sl) K2 := by
  unfold cBslM
  cases putParts (.bytes (List.replicate m 0)) ps with
  | none => rfl
  | some v => cases v <;> rfl
theorem cBytes_eq {R : Type} {b : List UInt8} {d : Nat} {K2 : LV × Slots → Option R} (h : b.length ≤ 1099511627776) : ob (cBytes b d noSlots) K2 = K2 (.arr d 1 [] 0 0 b.length, upd noSlots d (.obj 1 (.bytes b))) := by
  simp only [cBytes, mkObj, no_at]
  rfl
theorem wApp_arr {d t g : Nat} {sl : Slots} {b s : List UInt8} (hb : b.length + s.length ≤ 1099511627776) :
    wAppend 1 1 d (upd sl t (.obj g (.bytes b))) (.arr t g [] 0 0 b.length) (.lst none (s.map byteLV)) = some (.arr t (g + 1) [] 0 0 (b.length + s.length), upd (upd sl t (.obj g (.bytes b))) t (.obj (g + 1) (.bytes (b ++ s)))) := by
  have h1 : ((s.map byteLV).all fun v => decide (flatLen v = 1)) = true := by
    rw [List.all_eq_true]; intro v hv; obtain ⟨w, _, rfl⟩ := List.mem_map.1 hv; simp [byteLV, flatLen]
  have h2 : ((s.map byteLV).all okByte) = true := by
    rw [List.all_eq_true]; intro v hv; obtain ⟨w, _, rfl⟩ := List.mem_map.1 hv
    have := w.toNat_lt
    simp [byteLV, okByte]; omega
  simp only [wAppend, newEls, h1, if_true, Option.bind_some, upd_same]
  rw [if_pos ⟨trivial, trivial, trivial, trivial, by simpa using hb, h2⟩, toBytes_byteLV]
  rfl
theorem wApp_str {d t g : Nat} {sl : Slots} {b s : List UInt8} (hb : b.length + s.length ≤ 1099511627776) :
    wAppend 1 1 d (upd sl t (.obj g (.bytes b))) (.arr t g [] 0 0 b.length) (.str s) = some (.arr t (g + 1) [] 0 0 (b.length + s.length), upd (upd sl t (.obj g (.bytes b))) t (.obj (g + 1) (.bytes (b ++ s)))) := by
  have h2 : ((s.map byteLV).all okByte) = true := by
    rw [List.all_eq_true]; intro v hv; obtain ⟨w, _, rfl⟩ := List.mem_map.1 hv
    have := w.toNat_lt
    simp [byteLV, okByte]; omega
  simp only [wAppend, newEls, if_true, Option.bind_some, upd_same]
  rw [if_pos ⟨trivial, trivial, trivial, trivial, by simpa using hb, h2⟩, toBytes_byteLV]
  rfl
theorem u8w (x : Nat) : IntKind.u8.wrap (x : Int) = ((UInt8.ofNat x).toNat : Int) := by rw [u8_wrap, UInt8.toNat_ofNat']
theorem u8_ofNat_mod (x : Nat) : UInt8.ofNat (x % 256) = UInt8.ofNat x := by apply UInt8.toNat_inj.1; simp
theorem u8_lt (c : UInt8) : (c.toNat : Int) < 256 := by have := c.toNat_lt; omega
theorem beB1 (x : Nat) : beB 1 x = [UInt8.ofNat x] := by simp [beB, List.range_succ]
theorem beB2 (x : Nat) : beB 2 x = [UInt8.ofNat (x / 256), UInt8.ofNat x] := by simp [beB, List.range_succ]
theorem div256 {x : Nat} (h : x ≤ 1000000) : IntKind.i64.wrap (Int.tdiv (x : Int) 256) = ((x / 256 : Nat) : Int) := by
  rw [show Int.tdiv (x : Int) 256 = ((x / 256 : Nat) : Int) from rfl, wrap_id (by omega) (by omega)]
theorem mod256 (x : Nat) : Int.tmod (x : Int) 256 = ((x % 256 : Nat) : Int) := rfl
theorem sum_zeros {h r : List UInt8} (hh : h.length % 2 = 0) : sumAt 0 (h ++ (0 :: 0 :: r)) = sumAt 0 (h ++ r) := by
  simp only [sumAt_append, sumAt, UInt8.toNat_zero]
  rw [show 0 + h.length + 1 + 1 = 0 + h.length + 2 by omega, sumAt_two]
  split <;> split <;> omega
theorem w16_beB {x : Nat} (h : x < 65536) : w16 (UInt8.ofNat (x / 256)) (UInt8.ofNat x) = x := by
  simp only [w16, UInt8.toNat_ofNat']; omega
theorem flip_tab : ∀ c : Fin 256, ∀ j : Fin 8, c.val ^^^ 2 ^ j.val = c.val + 2 ^ j.val ∨ (c.val ^^^ 2 ^ j.val) + 2 ^ j.val = c.val := by
  decide +kernel
theorem flip_nat {c j : Nat} (hc : c < 256) (hj : j < 8) : c ^^^ 2 ^ j = c + 2 ^ j ∨ (c ^^^ 2 ^ j) + 2 ^ j = c := flip_tab ⟨c, hc⟩ ⟨j, hj⟩
theorem ones_full {n : Nat} : ones n = 65535 ↔ 0 < n ∧ n % 65535 = 0 := by unfold ones; split <;> omega
theorem right_of {t x : Nat} (hx : x = if 65535 - ones t = 0 then 65535 else 65535 - ones t) : ones (t + x) = 65535 := by
  have h1 := ones_le t
  rw [← ones_add, ones_full]
  split at hx <;> omega
theorem right_of0 {t : Nat} : ones (t + (65535 - ones t)) = 65535 ∨ t = 0 ∧ False := by
  left
  have h1 := ones_le t
  rw [← ones_add, ones_full]
  omega
theorem sumAt_set : ∀ (s : List UInt8) (p k : Nat) (c d : UInt8), s[k]? = some c → sumAt p (s.set k d) + (if (p + k) % 2 = 0 then c.toNat * 256 else c.toNat) = sumAt p s + (if (p + k) % 2 = 0 then d.toNat * 256 else d.toNat)
  | [], p, k, c, d, h => by simp at h
  | a :: s, p, 0, c, d, h => by
    simp at h; subst h
    simp only [List.set_cons_zero, sumAt, Nat.add_zero]
    omega
  | a :: s, p, k + 1, c, d, h => by
    have := sumAt_set s (p + 1) k c d (by simpa using h)
    simp only [List.set_cons_succ, sumAt]
    rw [show p + 1 + k = p + (k + 1) by omega] at this
    omega
theorem pow_not {j m : Nat} (hj : j < 8) (hm : m = 2 ^ j * 256 ∨ m = 2 ^ j) : 0 < m ∧ m < 65535 := by
  have h1 : 0 < 2 ^ j := Nat.two_pow_pos j
  have h2 : 2 ^ j ≤ 2 ^ 7 := Nat.pow_le_pow_right (by decide) (by omega)
  have h3 : (2 : Nat) ^ 7 = 128 := by decide
  omega
theorem flip_told {s : List UInt8} {p k j : Nat} {c d : UInt8} (hk : s[k]? = some c) (hj : j < 8) (hd : d.toNat = c.toNat ^^^ 2 ^ j) (ho : ones (sumAt p s) = 65535) : ones (sumAt p (s.set k d)) ≠ 65535 := by
  have h1 := sumAt_set s p k c d hk
  have h2 := flip_nat c.toNat_lt hj
  rw [← hd] at h2
  have ho := ones_full.1 ho
  intro h
  have h := ones_full.1 h
  have h3 : 0 < 2 ^ j := Nat.two_pow_pos j
  have h4 : 2 ^ j ≤ 2 ^ 7 := Nat.pow_le_pow_right (by decide) (by omega)
  have h5 : (2 : Nat) ^ 7 = 128 := by decide
  generalize 2 ^ j = m at *
  split at h1 <;> omega
theorem sumS_zero {s : List UInt8} : sumS s = 0 ↔ ones (sumAt 0 s) = 65535 := by unfold sumS; omega
theorem bAt0 {c : UInt8} {l : List UInt8} : bAt (c :: l) 0 = c.toNat := Eq.trans rfl rfl
theorem bAts {c : UInt8} {l : List UInt8} {i : Nat} : bAt (c :: l) (i + 1) = bAt l i := by simp [bAt]
theorem wAt0 {c d : UInt8} {l : List UInt8} : wAt (c :: d :: l) 0 = w16 c d := Eq.trans rfl rfl
theorem wAts {c : UInt8} {l : List UInt8} {i : Nat} : wAt (c :: l) (i + 1) = wAt l i := by simp [wAt]
theorem w16_hi (a b : UInt8) : UInt8.ofNat (w16 a b / 256) = a := by
  apply UInt8.toNat_inj.1
  have := a.toNat_lt; have := b.toNat_lt
  simp only [UInt8.toNat_ofNat', w16]; omega
theorem w16_lo (a b : UInt8) : UInt8.ofNat (w16 a b) = b := by
  apply UInt8.toNat_inj.1
  have := a.toNat_lt; have := b.toNat_lt
  simp only [UInt8.toNat_ofNat', w16]; omega
theorem len_cons {k : Nat} {s : List UInt8} (h : k + 1 ≤ s.length) : ∃ a t, s = a :: t ∧ k ≤ t.length := by
  cases s with
  | nil => simp at h
  | cons a t => exact ⟨a, t, rfl, by simpa using h⟩
theorem nat_of {x : Int} (h : 0 ≤ x) : ∃ y : Nat, x = (y : Int) := Int.eq_ofNat_of_zero_le h
end Go.Ev

namespace Go.Ev
set_option linter.unusedSimpArgs false
set_option linter.unusedVariables false
set_option maxRecDepth 4000
set_option maxHeartbeats 2000000
section
variable {S : Sys} (hS : Has S) (n : Nat)
include hS
theorem ev_fold (m : Nat) (hm : m ≤ 9223372036854775807) : S.ev (n + 1) id_sum_fold [.int .i64 (m : Int)] none = some (.int .i64 (ones m : Nat), none) := by
  rw [Sys.step hS.h_sum_fold, F_sum_fold_eq]
  unfold F_sum_fold
  (try simp only [guard_merge, or_merge, and_merge, or_pick, and_pick, guard_or, guard_and]); simp only [to_ob]
  refine while_rule (fun k q => ∃ x : Nat, q = ([.int .i64 (x : Int)], noSlots) ∧ k = x ∧ ones x = ones m ∧ x ≤ 9223372036854775807) m ⟨m, rfl, rfl, rfl, hm⟩ ?_
  rintro k q ⟨x, rfl, rfl, hx, hb⟩
  simp only [go_sem, ↓reduceIte, reduceCtorEq, upd_ne, @back_new _ _ _ _ _ no_at, Nat.reduceAdd, Nat.reduceEqDiff, Nat.reduceMul, Nat.reduceSub, Nat.reduceLeDiff, Nat.reduceLT, Int.reduceToNat, Int.reduceLE, Int.reduceLT, Int.reduceEq, UInt8.reduceOfNat]
  refine nxt_ite (fun h => ?_) (fun h => ?_)
  · have e1 : bitsOf .and .i64 (k : Int) 65535 = ((k % 65536 : Nat) : Int) := by
      rw [show (65535 : Int) = ((2 ^ 16 - 1 : Nat) : Int) from rfl, bits_mask 16 (by omega) (by simp [IntKind.max, IntKind.signed, IntKind.bits]; omega) (by decide)]
      rfl
    have e2 : Int.fdiv (k : Int) (2 ^ min 16 64) = ((k / 65536 : Nat) : Int) := by
      rw [show min 16 64 = 16 from rfl, Int.fdiv_eq_ediv_of_nonneg _ (by decide)]
      rfl
    have e3 : IntKind.i64.wrap (((k / 65536 : Nat) : Int) + ((k % 65536 : Nat) : Int)) = ((k / 65536 + k % 65536 : Nat) : Int) := by
      rw [wrap_id (by omega) (by omega)]; omega
    have hk : 65535 < k := by omega
    simp only [go_sem, ↓reduceIte, reduceCtorEq, upd_ne, @back_new _ _ _ _ _ no_at, Nat.reduceAdd, Nat.reduceEqDiff, Nat.reduceMul, Nat.reduceSub, Nat.reduceLeDiff, Nat.reduceLT, Int.reduceToNat, Int.reduceLE, Int.reduceLT, Int.reduceEq, UInt8.reduceOfNat, e1, e2, e3]
    exact ⟨_, by omega, _, rfl, rfl, by rw [ones_step hk, hx], by omega⟩
  · have hk : k ≤ 65535 := by omega
    simp only [go_sem, ↓reduceIte, reduceCtorEq, upd_ne, @back_new _ _ _ _ _ no_at, Nat.reduceAdd, Nat.reduceEqDiff, Nat.reduceMul, Nat.reduceSub, Nat.reduceLeDiff, Nat.reduceLT, Int.reduceToNat, Int.reduceLE, Int.reduceLT, Int.reduceEq, UInt8.reduceOfNat, Nxt, exIf]
    rw [← hx, ones_small hk]
theorem ev_add (m p : Nat) (s : List UInt8) (hb : m + 65280 * s.length ≤ 9223372036854775807) (hp : p + s.length ≤ 9223372036854775806) :
    S.ev (n + 1) id_sum_add [.int .i64 (m : Int), .int .i64 (p : Int), .str s, .int .u8 0] none = some (.int .i64 (m + sumAt p s : Nat), none) := by
  rw [Sys.step hS.h_sum_add, F_sum_add_eq]
  unfold F_sum_add
  (try simp only [guard_merge, or_merge, and_merge, or_pick, and_pick, guard_or, guard_and]); simp only [to_ob]
  simp only [go_sem, ↓reduceIte, reduceCtorEq, upd_ne, @back_new _ _ _ _ _ no_at, Nat.reduceAdd, Nat.reduceEqDiff, Nat.reduceMul, Nat.reduceSub, Nat.reduceLeDiff, Nat.reduceLT, Int.reduceToNat, Int.reduceLE, Int.reduceLT, Int.reduceEq, UInt8.reduceOfNat]
  refine while_rule (fun k q => ∃ x i : Nat, q = ([.int .i64 (x : Int), .int .i64 (i : Int)], noSlots) ∧ i + k = s.length ∧ x + sumAt (p + i) (s.drop i) = m + sumAt p s) s.length ⟨m, 0, rfl, by simp, by simp⟩ ?_
  rintro k q ⟨x, i, rfl, hi, hx⟩
  have hle := sumAt_le s p
  simp only [go_sem, ↓reduceIte, reduceCtorEq, upd_ne, @back_new _ _ _ _ _ no_at, Nat.reduceAdd, Nat.reduceEqDiff, Nat.reduceMul, Nat.reduceSub, Nat.reduceLeDiff, Nat.reduceLT, Int.reduceToNat, Int.reduceLE, Int.reduceLT, Int.reduceEq, UInt8.reduceOfNat]
  refine nxt_ite (fun h => ?_) (fun h => ?_)
  · have hlt : i < s.length := by omega
    obtain ⟨c, hc⟩ : ∃ c, s[i]? = some c := ⟨s[i], by simp [hlt]⟩
    have hd : s.drop i = c :: s.drop (i + 1) := by
      rw [List.drop_eq_getElem_cons hlt]; congr 1; simpa [hlt] using hc
    have hcl := c.toNat_lt
    rw [hd] at hx
    simp only [sumAt] at hx
    have e0 : bitsOf .xor .u8 (c.toNat : Int) 0 = (c.toNat : Int) := by
      rw [show (0 : Int) = ((0 : Nat) : Int) from rfl, bits_xor_nat (by simp [IntKind.max, IntKind.signed, IntKind.bits]; omega) (by simp [IntKind.max, IntKind.signed, IntKind.bits])]
      simp
    have e1 : IntKind.i64.wrap (c.toNat : Int) = (c.toNat : Int) := wrap_id (by omega) (by omega)
    have e2 : IntKind.i64.wrap ((p : Int) + (i : Int)) = ((p + i : Nat) : Int) := by rw [wrap_id (by omega) (by omega)]; omega
    have e3 : Int.tmod ((p + i : Nat) : Int) 2 = (((p + i) % 2 : Nat) : Int) := by
      rw [Int.tmod_eq_emod_of_nonneg (by omega)]; omega
    have e4 : IntKind.i64.wrap ((c.toNat : Int) * 2 ^ min 8 64) = ((c.toNat * 256 : Nat) : Int) := by
      rw [show min 8 64 = 8 from rfl, wrap_id (by omega) (by omega)]; omega
    have e6 : IntKind.i64.wrap ((i : Int) + 1) = ((i + 1 : Nat) : Int) := by rw [wrap_id (by omega) (by omega)]; omega
    simp only [go_sem, ↓reduceIte, reduceCtorEq, upd_ne, @back_new _ _ _ _ _ no_at, Nat.reduceAdd, Nat.reduceEqDiff, Nat.reduceMul, Nat.reduceSub, Nat.reduceLeDiff, Nat.reduceLT, Int.reduceToNat, Int.reduceLE, Int.reduceLT, Int.reduceEq, UInt8.reduceOfNat, List.getElem?_map, Int.toNat_natCast, hc, e0, e1, e2, e3, e4, e6]
    by_cases hpar : (p + i) % 2 = 0
    · rw [if_pos hpar] at hx
      have e5 : IntKind.i64.wrap ((x : Int) + ((c.toNat * 256 : Nat) : Int)) = ((x + c.toNat * 256 : Nat) : Int) := by
        rw [wrap_id (by omega) (by omega)]; omega
      have hq : (((p + i) % 2 : Nat) : Int) = 0 := by omega
      simp only [go_sem, ↓reduceIte, reduceCtorEq, upd_ne, @back_new _ _ _ _ _ no_at, Nat.reduceAdd, Nat.reduceEqDiff, Nat.reduceMul, Nat.reduceSub, Nat.reduceLeDiff, Nat.reduceLT, Int.reduceToNat, Int.reduceLE, Int.reduceLT, Int.reduceEq, UInt8.reduceOfNat, hq, e5]
      exact ⟨k - 1, by omega, _, i + 1, rfl, by omega, by rw [show p + (i + 1) = p + i + 1 by omega]; omega⟩
    · rw [if_neg hpar] at hx
      have e5 : IntKind.i64.wrap ((x : Int) + (c.toNat : Int)) = ((x + c.toNat : Nat) : Int) := by
        rw [wrap_id (by omega) (by omega)]; omega
      have hq : ¬ (((p + i) % 2 : Nat) : Int) = 0 := by omega
      simp only [go_sem, ↓reduceIte, reduceCtorEq, upd_ne, @back_new _ _ _ _ _ no_at, Nat.reduceAdd, Nat.reduceEqDiff, Nat.reduceMul, Nat.reduceSub, Nat.reduceLeDiff, Nat.reduceLT, Int.reduceToNat, Int.reduceLE, Int.reduceLT, Int.reduceEq, UInt8.reduceOfNat, hq, e5]
      exact ⟨k - 1, by omega, _, i + 1, rfl, by omega, by rw [show p + (i + 1) = p + i + 1 by omega]; omega⟩
  · rw [List.drop_eq_nil_of_le (by omega)] at hx
    simp only [sumAt, Nat.add_zero] at hx
    simp only [go_sem, ↓reduceIte, reduceCtorEq, upd_ne, @back_new _ _ _ _ _ no_at, Nat.reduceAdd, Nat.reduceEqDiff, Nat.reduceMul, Nat.reduceSub, Nat.reduceLeDiff, Nat.reduceLT, Int.reduceToNat, Int.reduceLE, Int.reduceLT, Int.reduceEq, UInt8.reduceOfNat, Nxt, exIf, hx]
theorem ev_Of (ps : List (List UInt8)) (hl : ps.length ≤ 1000) (ht : ps.flatten.length ≤ 140737488351232) : S.ev (n + 2) id_sum_Of [.lst none (ps.map .str)] none = some (.int .i64 (65535 - (ones (sumAt 0 ps.flatten) : Nat)), none) := by
  rw [Sys.step hS.h_sum_Of, F_sum_Of_eq]
  unfold F_sum_Of
  (try simp only [guard_merge, or_merge, and_merge, or_pick, and_pick, guard_or, guard_and]); simp only [to_ob]
  simp only [go_sem, ↓reduceIte, reduceCtorEq, upd_ne, @back_new _ _ _ _ _ no_at, Nat.reduceAdd, Nat.reduceEqDiff, Nat.reduceMul, Nat.reduceSub, Nat.reduceLeDiff, Nat.reduceLT, Int.reduceToNat, Int.reduceLE, Int.reduceLT, Int.reduceEq, UInt8.reduceOfNat, List.length_map]
  refine while_rule (fun k q => ∃ i : Nat, q = ([.int .i64 (ones (sumAt 0 (ps.take i).flatten) : Nat), .int .i64 ((ps.take i).flatten.length : Nat), .int .i64 (i : Int)], noSlots) ∧ i + k = ps.length) ps.length ⟨0, by simp [ones, sumAt], by simp⟩ ?_
  rintro k q ⟨i, rfl, hi⟩
  simp only [go_sem, ↓reduceIte, reduceCtorEq, upd_ne, @back_new _ _ _ _ _ no_at, Nat.reduceAdd, Nat.reduceEqDiff, Nat.reduceMul, Nat.reduceSub, Nat.reduceLeDiff, Nat.reduceLT, Int.reduceToNat, Int.reduceLE, Int.reduceLT, Int.reduceEq, UInt8.reduceOfNat]
  refine nxt_ite (fun h => ?_) (fun h => ?_)
  · have hlt : i < ps.length := by omega
    obtain ⟨s, hs⟩ : ∃ s, ps[i]? = some s := ⟨ps[i], by simp [hlt]⟩
    have htk : ps.take (i + 1) = ps.take i ++ [s] := by
      rw [List.take_add_one, hs]; rfl
    have hfl : (ps.take (i + 1)).flatten = (ps.take i).flatten ++ s := by rw [htk]; simp
    have hle : ((ps.take i).flatten ++ s).length ≤ 140737488351232 := by
      rw [← hfl]
      refine Nat.le_trans ?_ ht
      conv => rhs; rw [← List.take_append_drop (i + 1) ps, List.flatten_append]
      simp
    rw [List.length_append] at hle
    generalize (ps.take i).flatten = u at *
    have ho := ones_le (sumAt 0 u)
    have hsl := sumAt_le s u.length
    have h1 := ev_add hS n (ones (sumAt 0 u)) u.length s (by omega) (by omega)
    have h2 := ev_fold hS n (ones (sumAt 0 u) + sumAt u.length s) (by omega)
    have e1 : IntKind.i64.wrap ((u.length : Int) + (s.length : Int)) = ((u ++ s).length : Nat) := by
      rw [wrap_id (by omega) (by omega), List.length_append]; omega
    have e2 : IntKind.i64.wrap ((i : Int) + 1) = ((i + 1 : Nat) : Int) := by rw [wrap_id (by omega) (by omega)]; omega
    rw [ones_add, show sumAt 0 u + sumAt u.length s = sumAt 0 (u ++ s) by rw [sumAt_append]; simp] at h2
    simp only [go_sem, ↓reduceIte, reduceCtorEq, upd_ne, @back_new _ _ _ _ _ no_at, Nat.reduceAdd, Nat.reduceEqDiff, Nat.reduceMul, Nat.reduceSub, Nat.reduceLeDiff, Nat.reduceLT, Int.reduceToNat, Int.reduceLE, Int.reduceLT, Int.reduceEq, UInt8.reduceOfNat, List.getElem?_map, Int.toNat_natCast, hs, h1, h2, e1, e2]
    exact ⟨k - 1, by omega, i + 1, by rw [hfl], by omega⟩
  · rw [List.take_of_length_le (by omega)]
    have ho := ones_le (sumAt 0 ps.flatten)
    have e1 : IntKind.i64.wrap (65535 - ((ones (sumAt 0 ps.flatten) : Nat) : Int)) = 65535 - ((ones (sumAt 0 ps.flatten) : Nat) : Int) := wrap_id (by omega) (by omega)
    simp only [go_sem, ↓reduceIte, reduceCtorEq, upd_ne, @back_new _ _ _ _ _ no_at, Nat.reduceAdd, Nat.reduceEqDiff, Nat.reduceMul, Nat.reduceSub, Nat.reduceLeDiff, Nat.reduceLT, Int.reduceToNat, Int.reduceLE, Int.reduceLT, Int.reduceEq, UInt8.reduceOfNat, Nxt, exIf, e1]
end
end Go.Ev

namespace Go.Ev
set_option linter.unusedSimpArgs false
set_option linter.unusedVariables false
set_option maxRecDepth 4000
set_option maxHeartbeats 2000000
def bigR (x : Int) (m : Nat) : LV := if 0 ≤ x ∧ x < ((256 ^ m : Nat) : Int) then .tup [.str (beB m x.toNat), .nili] else .tup [.str [], faultLV 13]
section
variable {S : Sys} (hS : Has S) (n : Nat)
include hS
theorem ev_Big (x : Int) (m : Nat) (hm : m = 1 ∨ m = 2 ∨ m = 4) (hx : I64 x) : S.ev (n + 1) id_num_Big [.int .i64 x, .int .i64 (m : Int)] none = some (bigR x m, none) := by
  rw [Sys.step hS.h_num_Big, F_num_Big_eq]
  unfold F_num_Big
  (try simp only [guard_merge, or_merge, and_merge, or_pick, and_pick, guard_or, guard_and]); simp only [to_ob]
  have f1 : ¬ ((¬ (m : Int) = 1 ∧ ¬ (m : Int) = 2) ∧ ¬ (m : Int) = 4) := by omega
  have e1 : IntKind.i64.wrap (8 * (m : Int)) = ((8 * m : Nat) : Int) := by rw [wrap_id (by omega) (by omega)]; omega
  have e2 : IntKind.i64.wrap (1 * 2 ^ min (8 * m) 64) = ((256 ^ m : Nat) : Int) := by
    rcases hm with rfl | rfl | rfl <;> rfl
  have f2 : ¬ ((8 * m : Nat) : Int) < 0 := by omega
  unfold bigR
  by_cases c : 0 ≤ x ∧ x < ((256 ^ m : Nat) : Int)
  · have c' : ¬ (x < 0 ∨ ((256 ^ m : Nat) : Int) ≤ x) := by omega
    rw [if_pos c]
    obtain ⟨y, rfl⟩ := Int.eq_ofNat_of_zero_le c.1
    have hm4 : m ≤ 4 := by omega
    have hy : (y : Int) ≤ 9223372036854775807 := hx.2
    have f3 : (m : Int) ≤ 1099511627776 := by omega
    have f4 : (0 : Int) ≤ (m : Int) := by omega
    simp only [go_sem, ↓reduceIte, reduceCtorEq, upd_ne, @back_new _ _ _ _ _ no_at, Nat.reduceAdd, Nat.reduceEqDiff, Nat.reduceMul, Nat.reduceSub, Nat.reduceLeDiff, Nat.reduceLT, Int.reduceToNat, Int.reduceLE, Int.reduceLT, Int.reduceEq, UInt8.reduceOfNat, f1, e1, e2, f2, c', f3, f4, Int.le_refl, List.length_replicate]
    refine while_rule (fun k q => ∃ i : Nat, q = ([.int .i64 (i : Int)], upd noSlots 36 (.obj 1 (.bytes ((beB m y).take i ++ List.replicate (m - i) 0)))) ∧ i + k = m) m ⟨0, by simp, by simp⟩ ?_
    rintro k q ⟨i, rfl, hi⟩
    simp only [go_sem, ↓reduceIte, reduceCtorEq, upd_ne, @back_new _ _ _ _ _ no_at, Nat.reduceAdd, Nat.reduceEqDiff, Nat.reduceMul, Nat.reduceSub, Nat.reduceLeDiff, Nat.reduceLT, Int.reduceToNat, Int.reduceLE, Int.reduceLT, Int.reduceEq, UInt8.reduceOfNat]
    refine nxt_ite (fun h => ?_) (fun h => ?_)
    · have hlt : i < m := by omega
      have g1 : IntKind.i64.wrap ((m : Int) - 1) = ((m - 1 : Nat) : Int) := by rw [wrap_id (by omega) (by omega)]; omega
      have g2 : IntKind.i64.wrap (((m - 1 : Nat) : Int) - (i : Int)) = ((m - 1 - i : Nat) : Int) := by rw [wrap_id (by omega) (by omega)]; omega
      have g3 : IntKind.i64.wrap (8 * ((m - 1 - i : Nat) : Int)) = ((8 * (m - 1 - i) : Nat) : Int) := by rw [wrap_id (by omega) (by omega)]; omega
      have g4 : ¬ ((8 * (m - 1 - i) : Nat) : Int) < 0 := by omega
      have g5 : Int.fdiv (y : Int) (2 ^ min (8 * (m - 1 - i)) 64) = ((y / 256 ^ (m - 1 - i) : Nat) : Int) := by
        have p1 : ((2 : Int) ^ (8 * (m - 1 - i))) = ((256 ^ (m - 1 - i) : Nat) : Int) := by
          rw [show (256 : Nat) = 2 ^ 8 from rfl, ← Nat.pow_mul]; simp
        rw [Nat.min_eq_left (by omega), p1, Int.fdiv_eq_ediv_of_nonneg _ (Int.natCast_nonneg _)]
        rfl
      have hl : ((beB m y).take i ++ List.replicate (m - i) 0).length = m := by rw [List.length_append, List.length_take, beB_len, List.length_replicate]; omega
      obtain ⟨c0, hc0⟩ : ∃ c0, ((beB m y).take i ++ List.replicate (m - i) 0)[i]? = some c0 := ⟨_, List.getElem?_eq_getElem (by omega)⟩
      have g6 : ((y / 256 ^ (m - 1 - i) % 256 : Nat) : Int) < 256 := by omega
      have g7 : (UInt8.ofNat (y / 256 ^ (m - 1 - i) % 256)) = UInt8.ofNat (y / 256 ^ (m - 1 - i)) := by
        apply UInt8.toNat_inj.1; simp
      have g8 := set_mid (beB_len m y) hlt (beB_get hlt)
      have g9 : IntKind.i64.wrap ((i : Int) + 1) = ((i + 1 : Nat) : Int) := by rw [wrap_id (by omega) (by omega)]; omega
      simp only [go_sem, ↓reduceIte, reduceCtorEq, upd_ne, @back_new _ _ _ _ _ no_at, Nat.reduceAdd, Nat.reduceEqDiff, Nat.reduceMul, Nat.reduceSub, Nat.reduceLeDiff, Nat.reduceLT, Int.reduceToNat, Int.reduceLE, Int.reduceLT, Int.reduceEq, UInt8.reduceOfNat, List.getElem?_map, Int.toNat_natCast, g1, g2, g3, g4, g5, u8_wrap, hl, hc0, hlt, byteLV, g6, g7, g8, g9]
      exact ⟨k - 1, by omega, i + 1, rfl, by omega⟩
    · rw [List.take_of_length_le (by rw [beB_len]; omega), show m - i = 0 by omega]
      have hb := beB_len m y
      have hb2 : m ≤ (beB m y).length := by omega
      have htk : (beB m y).take m = beB m y := List.take_of_length_le (by omega)
      simp only [go_sem, ↓reduceIte, reduceCtorEq, upd_ne, @back_new _ _ _ _ _ no_at, Nat.reduceAdd, Nat.reduceEqDiff, Nat.reduceMul, Nat.reduceSub, Nat.reduceLeDiff, Nat.reduceLT, Int.reduceToNat, Int.reduceLE, Int.reduceLT, Int.reduceEq, UInt8.reduceOfNat, Nxt, exIf, hb, htk, Nat.le_refl, Int.toNat_natCast]
  · have c' : x < 0 ∨ ((256 ^ m : Nat) : Int) ≤ x := by omega
    rw [if_neg c]
    simp only [go_sem, ↓reduceIte, reduceCtorEq, upd_ne, @back_new _ _ _ _ _ no_at, Nat.reduceAdd, Nat.reduceEqDiff, Nat.reduceMul, Nat.reduceSub, Nat.reduceLeDiff, Nat.reduceLT, Int.reduceToNat, Int.reduceLE, Int.reduceLT, Int.reduceEq, UInt8.reduceOfNat, f1, e1, e2, f2, c']
end
end Go.Ev

namespace Go.Ev
set_option linter.unusedSimpArgs false
set_option linter.unusedVariables false
set_option maxRecDepth 4000
set_option maxHeartbeats 2000000
abbrev okB (n : Int) : Prop := 0 ≤ n ∧ n ≤ 255
def why4 (tos id ttl pt at' : Int) (mo : Bool) (op da : List UInt8) : Int :=
  if okB tos ∧ okB ttl ∧ okB pt ∧ (0 ≤ id ∧ id ≤ 65535) ∧ (0 ≤ at' ∧ at' ≤ 65528) ∧ Int.tmod at' 8 = 0 then
    (if op.length ≤ 40 ∧ op.length % 4 = 0 ∧ (mo = true → da.length ≠ 0 ∧ da.length % 8 = 0) then
      (if 20 + (op.length : Int) + at' + da.length ≤ 65535 then 0 else 3) else 8) else 13
section
variable {S : Sys} (hS : Has S) (n : Nat)
include hS
theorem ev_byteful (l : List Int) (hl : l.length ≤ 1000) : S.ev (n + 1) id_ip4_byteful [.lst none (l.map (LV.int .i64))] none = some (.bool (decide (∀ x ∈ l, okB x)), none) := by
  rw [Sys.step hS.h_ip4_byteful, F_ip4_byteful_eq]
  unfold F_ip4_byteful
  (try simp only [guard_merge, or_merge, and_merge, or_pick, and_pick, guard_or, guard_and]); simp only [to_ob]
  simp only [go_sem, ↓reduceIte, reduceCtorEq, upd_ne, @back_new _ _ _ _ _ no_at, Nat.reduceAdd, Nat.reduceEqDiff, Nat.reduceMul, Nat.reduceSub, Nat.reduceLeDiff, Nat.reduceLT, Int.reduceToNat, Int.reduceLE, Int.reduceLT, Int.reduceEq, UInt8.reduceOfNat, List.length_map]
  refine while_rule (fun k q => ∃ i : Nat, q = ([.bool false, .int .i64 (i : Int)], noSlots) ∧ i + k = l.length ∧ ∀ x ∈ l.take i, okB x) l.length ⟨0, rfl, by simp, by simp⟩ ?_
  rintro k q ⟨i, rfl, hi, hx⟩
  simp only [go_sem, ↓reduceIte, reduceCtorEq, upd_ne, @back_new _ _ _ _ _ no_at, Nat.reduceAdd, Nat.reduceEqDiff, Nat.reduceMul, Nat.reduceSub, Nat.reduceLeDiff, Nat.reduceLT, Int.reduceToNat, Int.reduceLE, Int.reduceLT, Int.reduceEq, UInt8.reduceOfNat]
  refine nxt_ite (fun h => ?_) (fun h => ?_)
  · have hlt : i < l.length := by omega
    obtain ⟨c, hc⟩ : ∃ c, l[i]? = some c := ⟨l[i], by simp [hlt]⟩
    have htk : l.take (i + 1) = l.take i ++ [c] := by rw [List.take_add_one, hc]; rfl
    have hcm : c ∈ l := List.mem_of_getElem? hc
    have e6 : IntKind.i64.wrap ((i : Int) + 1) = ((i + 1 : Nat) : Int) := by rw [wrap_id (by omega) (by omega)]; omega
    have hg : (l.map (LV.int IntKind.i64))[i]? = some (.int .i64 c) := by simp [hc]
    by_cases hb : c < 0 ∨ 255 < c
    · have hn : ¬ ∀ x ∈ l, okB x := fun h => by have := h c hcm; unfold okB at this; omega
      simp only [go_sem, ↓reduceIte, reduceCtorEq, upd_ne, @back_new _ _ _ _ _ no_at, Nat.reduceAdd, Nat.reduceEqDiff, Nat.reduceMul, Nat.reduceSub, Nat.reduceLeDiff, Nat.reduceLT, Int.reduceToNat, Int.reduceLE, Int.reduceLT, Int.reduceEq, UInt8.reduceOfNat, List.getElem?_map, Int.toNat_natCast, hg, hc, hlt, hb, Nxt, exIf, hn]
    · simp only [go_sem, ↓reduceIte, reduceCtorEq, upd_ne, @back_new _ _ _ _ _ no_at, Nat.reduceAdd, Nat.reduceEqDiff, Nat.reduceMul, Nat.reduceSub, Nat.reduceLeDiff, Nat.reduceLT, Int.reduceToNat, Int.reduceLE, Int.reduceLT, Int.reduceEq, UInt8.reduceOfNat, List.getElem?_map, Int.toNat_natCast, hg, hc, hlt, hb, e6]
      refine ⟨k - 1, by omega, i + 1, rfl, by omega, ?_⟩
      rw [htk]
      intro x hx'
      rcases List.mem_append.1 hx' with h' | h'
      · exact hx x h'
      · simp at h'; subst h'; unfold okB; omega
  · rw [List.take_of_length_le (by omega)] at hx
    simp only [go_sem, ↓reduceIte, reduceCtorEq, upd_ne, @back_new _ _ _ _ _ no_at, Nat.reduceAdd, Nat.reduceEqDiff, Nat.reduceMul, Nat.reduceSub, Nat.reduceLeDiff, Nat.reduceLT, Int.reduceToNat, Int.reduceLE, Int.reduceLT, Int.reduceEq, UInt8.reduceOfNat, Nxt, exIf, hx]
    simp only [decide_eq_true hx]
theorem ev_why4 {tos id ttl pt at' : Int} {df mo : Bool} {fr to op da : List UInt8} (hfr : fr.length = 4) (hto : to.length = 4) (hop : op.length ≤ 140737488351232) (hda : da.length ≤ 140737488351232) :
    S.ev (n + 2) id_ip4_why [ip4LV tos id ttl pt at' df mo fr to op da] none = some (.int .i64 (why4 tos id ttl pt at' mo op da), none) := by
  rw [Sys.step hS.h_ip4_why, F_ip4_why_eq]
  unfold F_ip4_why
  have hb := ev_byteful hS n [tos, ttl, pt] (by simp)
  simp only [List.map_cons, List.map_nil] at hb
  (try simp only [guard_merge, or_merge, and_merge, or_pick, and_pick, guard_or, guard_and]); simp only [to_ob]
  unfold why4
  have e1 : Int.tmod (op.length : Int) 4 = ((op.length % 4 : Nat) : Int) := rfl
  have e2 : Int.tmod (da.length : Int) 8 = ((da.length % 8 : Nat) : Int) := rfl
  by_cases cB : okB tos ∧ okB ttl ∧ okB pt
  · have hall : ∀ x ∈ [tos, ttl, pt], okB x := by simp only [List.forall_mem_cons]; exact ⟨cB.1, cB.2.1, cB.2.2, by simp⟩
    rw [decide_eq_true hall] at hb
    by_cases c1 : (0 ≤ id ∧ id ≤ 65535) ∧ (0 ≤ at' ∧ at' ≤ 65528) ∧ Int.tmod at' 8 = 0
    · obtain ⟨⟨c14, c15⟩, ⟨c16, c17⟩, c18⟩ := c1
      obtain ⟨c11, c12, c13⟩ := cB
      rw [if_pos ⟨c11, c12, c13, ⟨c14, c15⟩, ⟨c16, c17⟩, c18⟩]
      have d1 : ¬ id < 0 := by omega
      have d2 : ¬ 65535 < id := by omega
      have d3 : ¬ at' < 0 := by omega
      have d4 : ¬ 65528 < at' := by omega
      by_cases k1 : op.length ≤ 40
      · have k1' : ¬ 40 < (op.length : Int) := by omega
        have k5 : IntKind.i64.wrap (IntKind.i64.wrap (65515 - (op.length : Int)) - at') = 65515 - (op.length : Int) - at' := by
          rw [wrap_id (n := 65515 - (op.length : Int)) (by omega) (by omega), wrap_id (by omega) (by omega)]
        by_cases k2 : op.length % 4 = 0
        · have k2' : ((op.length % 4 : Nat) : Int) = 0 := by omega
          by_cases k6 : 20 + (op.length : Int) + at' + da.length ≤ 65535
          · have k6' : ¬ 65515 - (op.length : Int) - at' < (da.length : Int) := by omega
            cases mo
            · simp only [go_sem, ↓reduceIte, reduceCtorEq, upd_ne, @back_new _ _ _ _ _ no_at, Nat.reduceAdd, Nat.reduceEqDiff, Nat.reduceMul, Nat.reduceSub, Nat.reduceLeDiff, Nat.reduceLT, Int.reduceToNat, Int.reduceLE, Int.reduceLT, Int.reduceEq, UInt8.reduceOfNat, hb, hfr, hto, d1, d2, d3, d4, c11, c12, c13, c14, c15, c16, c17, c18, e1, e2, k1, k1', k2, k2', k5, k6, k6', false_implies]
            · by_cases k3 : da = []
              · subst k3
                simp only [go_sem, ↓reduceIte, reduceCtorEq, upd_ne, @back_new _ _ _ _ _ no_at, Nat.reduceAdd, Nat.reduceEqDiff, Nat.reduceMul, Nat.reduceSub, Nat.reduceLeDiff, Nat.reduceLT, Int.reduceToNat, Int.reduceLE, Int.reduceLT, Int.reduceEq, UInt8.reduceOfNat, hb, hfr, hto, d1, d2, d3, d4, c11, c12, c13, c14, c15, c16, c17, c18, e1, e2, k1, k1', k2, k2', true_implies]
              · have k3' : ¬ da.length = 0 := fun h => k3 (List.length_eq_zero_iff.1 h)
                by_cases k4 : da.length % 8 = 0
                · have k4' : ((da.length % 8 : Nat) : Int) = 0 := by omega
                  simp only [go_sem, ↓reduceIte, reduceCtorEq, upd_ne, @back_new _ _ _ _ _ no_at, Nat.reduceAdd, Nat.reduceEqDiff, Nat.reduceMul, Nat.reduceSub, Nat.reduceLeDiff, Nat.reduceLT, Int.reduceToNat, Int.reduceLE, Int.reduceLT, Int.reduceEq, UInt8.reduceOfNat, hb, hfr, hto, d1, d2, d3, d4, c11, c12, c13, c14, c15, c16, c17, c18, e1, e2, k1, k1', k2, k2', k3, k3', k4, k4', k5, k6, k6', true_implies]
                · have k4' : ¬ ((da.length % 8 : Nat) : Int) = 0 := by omega
                  simp only [go_sem, ↓reduceIte, reduceCtorEq, upd_ne, @back_new _ _ _ _ _ no_at, Nat.reduceAdd, Nat.reduceEqDiff, Nat.reduceMul, Nat.reduceSub, Nat.reduceLeDiff, Nat.reduceLT, Int.reduceToNat, Int.reduceLE, Int.reduceLT, Int.reduceEq, UInt8.reduceOfNat, hb, hfr, hto, d1, d2, d3, d4, c11, c12, c13, c14, c15, c16, c17, c18, e1, e2, k1, k1', k2, k2', k3, k3', k4, k4', true_implies]
          · have k6' : 65515 - (op.length : Int) - at' < (da.length : Int) := by omega
            cases mo
            · simp only [go_sem, ↓reduceIte, reduceCtorEq, upd_ne, @back_new _ _ _ _ _ no_at, Nat.reduceAdd, Nat.reduceEqDiff, Nat.reduceMul, Nat.reduceSub, Nat.reduceLeDiff, Nat.reduceLT, Int.reduceToNat, Int.reduceLE, Int.reduceLT, Int.reduceEq, UInt8.reduceOfNat, hb, hfr, hto, d1, d2, d3, d4, c11, c12, c13, c14, c15, c16, c17, c18, e1, e2, k1, k1', k2, k2', k5, k6, k6', false_implies]
            · by_cases k3 : da = []
              · subst k3
                simp only [go_sem, ↓reduceIte, reduceCtorEq, upd_ne, @back_new _ _ _ _ _ no_at, Nat.reduceAdd, Nat.reduceEqDiff, Nat.reduceMul, Nat.reduceSub, Nat.reduceLeDiff, Nat.reduceLT, Int.reduceToNat, Int.reduceLE, Int.reduceLT, Int.reduceEq, UInt8.reduceOfNat, hb, hfr, hto, d1, d2, d3, d4, c11, c12, c13, c14, c15, c16, c17, c18, e1, e2, k1, k1', k2, k2', true_implies]
              · have k3' : ¬ da.length = 0 := fun h => k3 (List.length_eq_zero_iff.1 h)
                by_cases k4 : da.length % 8 = 0
                · have k4' : ((da.length % 8 : Nat) : Int) = 0 := by omega
                  simp only [go_sem, ↓reduceIte, reduceCtorEq, upd_ne, @back_new _ _ _ _ _ no_at, Nat.reduceAdd, Nat.reduceEqDiff, Nat.reduceMul, Nat.reduceSub, Nat.reduceLeDiff, Nat.reduceLT, Int.reduceToNat, Int.reduceLE, Int.reduceLT, Int.reduceEq, UInt8.reduceOfNat, hb, hfr, hto, d1, d2, d3, d4, c11, c12, c13, c14, c15, c16, c17, c18, e1, e2, k1, k1', k2, k2', k3, k3', k4, k4', k5, k6, k6', true_implies]
                · have k4' : ¬ ((da.length % 8 : Nat) : Int) = 0 := by omega
                  simp only [go_sem, ↓reduceIte, reduceCtorEq, upd_ne, @back_new _ _ _ _ _ no_at, Nat.reduceAdd, Nat.reduceEqDiff, Nat.reduceMul, Nat.reduceSub, Nat.reduceLeDiff, Nat.reduceLT, Int.reduceToNat, Int.reduceLE, Int.reduceLT, Int.reduceEq, UInt8.reduceOfNat, hb, hfr, hto, d1, d2, d3, d4, c11, c12, c13, c14, c15, c16, c17, c18, e1, e2, k1, k1', k2, k2', k3, k3', k4, k4', true_implies]
        · have k2' : ¬ ((op.length % 4 : Nat) : Int) = 0 := by omega
          simp only [go_sem, ↓reduceIte, reduceCtorEq, upd_ne, @back_new _ _ _ _ _ no_at, Nat.reduceAdd, Nat.reduceEqDiff, Nat.reduceMul, Nat.reduceSub, Nat.reduceLeDiff, Nat.reduceLT, Int.reduceToNat, Int.reduceLE, Int.reduceLT, Int.reduceEq, UInt8.reduceOfNat, hb, hfr, hto, d1, d2, d3, d4, c11, c12, c13, c14, c15, c16, c17, c18, e1, e2, k1, k1', k2, k2']
      · have k1' : 40 < (op.length : Int) := by omega
        simp only [go_sem, ↓reduceIte, reduceCtorEq, upd_ne, @back_new _ _ _ _ _ no_at, Nat.reduceAdd, Nat.reduceEqDiff, Nat.reduceMul, Nat.reduceSub, Nat.reduceLeDiff, Nat.reduceLT, Int.reduceToNat, Int.reduceLE, Int.reduceLT, Int.reduceEq, UInt8.reduceOfNat, hb, hfr, hto, d1, d2, d3, d4, c11, c12, c13, c14, c15, c16, c17, c18, e1, e2, k1, k1']
    · have c1' : (((id < 0 ∨ 65535 < id) ∨ at' < 0) ∨ 65528 < at') ∨ ¬ Int.tmod at' 8 = 0 := by
        by_cases h8 : Int.tmod at' 8 = 0
        · left; simp only [h8, and_true] at c1; omega
        · right; exact h8
      have c2 : ¬ (okB tos ∧ okB ttl ∧ okB pt ∧ (0 ≤ id ∧ id ≤ 65535) ∧ (0 ≤ at' ∧ at' ≤ 65528) ∧ Int.tmod at' 8 = 0) := fun h => c1 h.2.2.2
      rw [if_neg c2]
      simp only [go_sem, ↓reduceIte, reduceCtorEq, upd_ne, @back_new _ _ _ _ _ no_at, Nat.reduceAdd, Nat.reduceEqDiff, Nat.reduceMul, Nat.reduceSub, Nat.reduceLeDiff, Nat.reduceLT, Int.reduceToNat, Int.reduceLE, Int.reduceLT, Int.reduceEq, UInt8.reduceOfNat, hb, hfr, hto, c1']
  · have hall : ¬ ∀ x ∈ [tos, ttl, pt], okB x := fun h => cB ⟨h _ (by simp), h _ (by simp), h _ (by simp)⟩
    rw [decide_eq_false hall] at hb
    have c2 : ¬ (okB tos ∧ okB ttl ∧ okB pt ∧ (0 ≤ id ∧ id ≤ 65535) ∧ (0 ≤ at' ∧ at' ≤ 65528) ∧ Int.tmod at' 8 = 0) := fun h => cB ⟨h.1, h.2.1, h.2.2.1⟩
    rw [if_neg c2]
    simp only [go_sem, ↓reduceIte, reduceCtorEq, upd_ne, @back_new _ _ _ _ _ no_at, Nat.reduceAdd, Nat.reduceEqDiff, Nat.reduceMul, Nat.reduceSub, Nat.reduceLeDiff, Nat.reduceLT, Int.reduceToNat, Int.reduceLE, Int.reduceLT, Int.reduceEq, UInt8.reduceOfNat, hb, hfr, hto]
theorem ev_big4 (x : Int) (m : Nat) (hm : m = 1 ∨ m = 2 ∨ m = 4) (hx : 0 ≤ x ∧ x < ((256 ^ m : Nat) : Int)) (h64 : I64 x) : S.ev (n + 2) id_ip4_big [.int .i64 x, .int .i64 (m : Int)] none = some (.str (beB m x.toNat), none) := by
  rw [Sys.step hS.h_ip4_big, F_ip4_big_eq]
  unfold F_ip4_big
  have h1 := ev_Big hS n x m hm h64
  unfold bigR at h1
  rw [if_pos hx] at h1
  (try simp only [guard_merge, or_merge, and_merge, or_pick, and_pick, guard_or, guard_and]); simp only [to_ob]
  simp only [go_sem, ↓reduceIte, reduceCtorEq, upd_ne, @back_new _ _ _ _ _ no_at, Nat.reduceAdd, Nat.reduceEqDiff, Nat.reduceMul, Nat.reduceSub, Nat.reduceLeDiff, Nat.reduceLT, Int.reduceToNat, Int.reduceLE, Int.reduceLT, Int.reduceEq, UInt8.reduceOfNat, h1]
theorem ev_fault4' (c : Int) : S.ev (n + 1) id_ip4_fault [.int .i64 c] none = some (faultLV c, none) := by
  rw [Sys.step hS.h_ip4_fault, F_ip4_fault_eq]
  unfold F_ip4_fault
  simp only [to_ob]
  simp only [go_sem, ↓reduceIte, reduceCtorEq, upd_ne, @back_new _ _ _ _ _ no_at, Nat.reduceAdd, Nat.reduceEqDiff, Nat.reduceMul, Nat.reduceSub, Nat.reduceLeDiff, Nat.reduceLT, Int.reduceToNat, Int.reduceLE, Int.reduceLT, Int.reduceEq, UInt8.reduceOfNat]
end
end Go.Ev

namespace Go.Ev
set_option linter.unusedSimpArgs false
set_option linter.unusedVariables false
set_option maxRecDepth 4000
set_option maxHeartbeats 4000000
def at4 (at' : Int) (df mo : Bool) : Nat := at'.toNat / 8 + (if df = true then 16384 else 0) + (if mo = true then 8192 else 0)
def hd4 (tos id ttl pt at' : Int) (df mo : Bool) (op da : List UInt8) : List UInt8 :=
  beB 1 (64 + (20 + op.length) / 4) ++ (beB 1 tos.toNat ++ (beB 2 (20 + op.length + da.length) ++ (beB 2 id.toNat ++ (beB 2 (at4 at' df mo) ++ (beB 1 ttl.toNat ++ beB 1 pt.toNat)))))
def x4 (tos id ttl pt at' : Int) (df mo : Bool) (fr to op da : List UInt8) : Int := sumS (hd4 tos id ttl pt at' df mo op da ++ (fr ++ (to ++ op)))
def by4 (tos id ttl pt at' : Int) (df mo : Bool) (fr to op da : List UInt8) : List UInt8 :=
  hd4 tos id ttl pt at' df mo op da ++ (beB 2 (x4 tos id ttl pt at' df mo fr to op da).toNat ++ (fr ++ (to ++ (op ++ da))))
def by4R (tos id ttl pt at' : Int) (df mo : Bool) (fr to op da : List UInt8) : List UInt8 := if why4 tos id ttl pt at' mo op da = 0 then by4 tos id ttl pt at' df mo fr to op da else []
structure Ok4 (tos id ttl pt at' : Int) (mo : Bool) (op da : List UInt8) : Prop where
  ktos : 0 ≤ tos ∧ tos ≤ 255
  kttl : 0 ≤ ttl ∧ ttl ≤ 255
  kpt : 0 ≤ pt ∧ pt ≤ 255
  kid : 0 ≤ id ∧ id ≤ 65535
  kat : 0 ≤ at' ∧ at' ≤ 65528
  kat8 : Int.tmod at' 8 = 0
  kop : op.length ≤ 40
  kop4 : op.length % 4 = 0
  kmo : mo = true → da.length ≠ 0 ∧ da.length % 8 = 0
  kall : 20 + (op.length : Int) + at' + da.length ≤ 65535
theorem why4_zero {tos id ttl pt at' : Int} {mo : Bool} {op da : List UInt8} : why4 tos id ttl pt at' mo op da = 0 ↔ Ok4 tos id ttl pt at' mo op da := by
  unfold why4
  constructor
  · intro h
    split at h
    case isFalse => simp at h
    rename_i h1
    split at h
    case isFalse => simp at h
    rename_i h2
    split at h
    case isFalse => simp at h
    rename_i h3
    exact ⟨h1.1, h1.2.1, h1.2.2.1, h1.2.2.2.1, h1.2.2.2.2.1, h1.2.2.2.2.2, h2.1, h2.2.1, h2.2.2, h3⟩
  · intro h
    rw [if_pos ⟨h.ktos, h.kttl, h.kpt, h.kid, h.kat, h.kat8⟩, if_pos ⟨h.kop, h.kop4, h.kmo⟩, if_pos h.kall]
theorem or_df {a : Nat} (h : a < 8192) : a ||| 16384 = a + 16384 := by
  rw [Nat.or_comm, show 16384 = 1 <<< 14 by rfl, ← Nat.shiftLeft_add_eq_or_of_lt (by omega)]
  omega
theorem or_mo {a : Nat} (h : a < 8192) : a ||| 8192 = a + 8192 := by
  rw [Nat.or_comm, show 8192 = 1 <<< 13 by rfl, ← Nat.shiftLeft_add_eq_or_of_lt (by omega)]
  omega
theorem or_dm {a : Nat} (h : a < 8192) : (a + 16384) ||| 8192 = a + 16384 + 8192 := by
  rw [← or_df h, Nat.or_assoc, show 16384 ||| 8192 = 3 <<< 13 by rfl, Nat.or_comm, ← Nat.shiftLeft_add_eq_or_of_lt (by omega), or_df h]
  simp only [Nat.shiftLeft_eq]
  omega
section
variable {S : Sys} (hS : Has S) (n : Nat)
include hS
theorem ev_bytes4 {tos id ttl pt at' : Int} {df mo : Bool} {fr to op da : List UInt8} (hf : FitIp4 tos id ttl pt at' fr to op da) :
    S.ev (n + 3) id_ip4_Bytes [ip4LV tos id ttl pt at' df mo fr to op da] none = some (.tup [.str (by4R tos id ttl pt at' df mo fr to op da), fE (why4 tos id ttl pt at' mo op da)], none) := by
  rw [Sys.step hS.h_ip4_Bytes, F_ip4_Bytes_eq]
  unfold F_ip4_Bytes F_ip4_Bytes_k2 F_ip4_Bytes_k1
  have hfr := hf.hfr
  have hto := hf.hto
  have hw := ev_why4 hS n (tos := tos) (id := id) (ttl := ttl) (pt := pt) (at' := at') (df := df) (mo := mo) hfr hto hf.hop hf.hda
  have hfa := ev_fault4' hS (n + 1)
  (try simp only [guard_merge, or_merge, and_merge, or_pick, and_pick, guard_or, guard_and]); simp only [to_ob]
  unfold by4R
  by_cases c : why4 tos id ttl pt at' mo op da = 0
  · have ok := why4_zero.1 c
    obtain ⟨o1, o2, o3, o4, o5, o6, o7, o8, o9, o10⟩ := ok
    rw [c] at hw
    obtain ⟨at', rfl⟩ := Int.eq_ofNat_of_zero_le o5.1
    have b1 : S.ev (n + 2) id_ip4_big [.int .i64 ((64 + (20 + op.length) / 4 : Nat) : Int), .int .i64 1] none = some (.str (beB 1 (64 + (20 + op.length) / 4)), none) := ev_big4 hS n _ 1 (by omega) (lt1 (by omega) (by omega)) ⟨by omega, by omega⟩
    have b2 : S.ev (n + 2) id_ip4_big [.int .i64 tos, .int .i64 1] none = some (.str (beB 1 tos.toNat), none) := ev_big4 hS n _ 1 (by omega) (lt1 (by omega) (by omega)) ⟨by omega, by omega⟩
    have b3 : S.ev (n + 2) id_ip4_big [.int .i64 ((20 + op.length + da.length : Nat) : Int), .int .i64 2] none = some (.str (beB 2 (20 + op.length + da.length)), none) := ev_big4 hS n _ 2 (by omega) (lt2 (by omega) (by omega)) ⟨by omega, by omega⟩
    have b4 : S.ev (n + 2) id_ip4_big [.int .i64 id, .int .i64 2] none = some (.str (beB 2 id.toNat), none) := ev_big4 hS n _ 2 (by omega) (lt2 (by omega) (by omega)) ⟨by omega, by omega⟩
    have ha4 : at4 at' df mo < 65536 := by unfold at4; rw [Int.toNat_natCast]; split <;> split <;> omega
    have b5 : S.ev (n + 2) id_ip4_big [.int .i64 ((at4 at' df mo : Nat) : Int), .int .i64 2] none = some (.str (beB 2 (at4 at' df mo)), none) := ev_big4 hS n _ 2 (by omega) (lt2 (by omega) (by omega)) ⟨by omega, by omega⟩
    have b6 : S.ev (n + 2) id_ip4_big [.int .i64 ttl, .int .i64 1] none = some (.str (beB 1 ttl.toNat), none) := ev_big4 hS n _ 1 (by omega) (lt1 (by omega) (by omega)) ⟨by omega, by omega⟩
    have b7 : S.ev (n + 2) id_ip4_big [.int .i64 pt, .int .i64 1] none = some (.str (beB 1 pt.toNat), none) := ev_big4 hS n _ 1 (by omega) (lt1 (by omega) (by omega)) ⟨by omega, by omega⟩
    have hx := sumS_le (hd4 tos id ttl pt at' df mo op da ++ (fr ++ (to ++ op)))
    have hx : 0 ≤ x4 tos id ttl pt at' df mo fr to op da ∧ x4 tos id ttl pt at' df mo fr to op da ≤ 65535 := hx
    have b8 : S.ev (n + 2) id_ip4_big [.int .i64 (x4 tos id ttl pt at' df mo fr to op da), .int .i64 2] none = some (.str (beB 2 (x4 tos id ttl pt at' df mo fr to op da).toNat), none) := ev_big4 hS n _ 2 (by omega) (lt2 (by omega) (by omega)) ⟨by omega, by omega⟩
    have ho := ev_Of hS n [hd4 tos id ttl pt at' df mo op da, fr ++ (to ++ op)] (by simp) (by simp [hd4, beB_len]; omega)
    simp only [List.map_cons, List.map_nil, List.flatten_cons, List.flatten_nil, List.append_nil] at ho
    have ho : S.ev (n + 2) id_sum_Of [.lst none [.str (hd4 tos id ttl pt at' df mo op da), .str (fr ++ (to ++ op))]] none = some (.int .i64 (x4 tos id ttl pt at' df mo fr to op da), none) := ho
    have hby : by4 tos id ttl pt at' df mo fr to op da = hd4 tos id ttl pt at' df mo op da ++ (beB 2 (x4 tos id ttl pt at' df mo fr to op da).toNat ++ (fr ++ (to ++ (op ++ da)))) := rfl
    generalize by4 tos id ttl pt at' df mo fr to op da = Y at *
    generalize x4 tos id ttl pt at' df mo fr to op da = X at *
    have e1 : IntKind.i64.wrap (Int.tdiv (at' : Int) 8) = ((at' / 8 : Nat) : Int) := by
      rw [show Int.tdiv (at' : Int) 8 = ((at' / 8 : Nat) : Int) from rfl, wrap_id (by omega) (by omega)]
    have e2 : IntKind.i64.wrap (20 + (op.length : Int)) = ((20 + op.length : Nat) : Int) := by rw [wrap_id (by omega) (by omega)]; omega
    have e3 : IntKind.i64.wrap (Int.tdiv ((20 + op.length : Nat) : Int) 4) = (((20 + op.length) / 4 : Nat) : Int) := by
      rw [show Int.tdiv ((20 + op.length : Nat) : Int) 4 = (((20 + op.length) / 4 : Nat) : Int) from rfl, wrap_id (by omega) (by omega)]
    have e4 : IntKind.i64.wrap (64 + (((20 + op.length) / 4 : Nat) : Int)) = ((64 + (20 + op.length) / 4 : Nat) : Int) := by rw [wrap_id (by omega) (by omega)]; omega
    have e5 : IntKind.i64.wrap (((20 + op.length : Nat) : Int) + (da.length : Int)) = ((20 + op.length + da.length : Nat) : Int) := by rw [wrap_id (by omega) (by omega)]; omega
    have hl := beB_len
    have hl9 : ∀ k : Nat, k ≤ 1000000 → k ≤ maxStr := fun k h => by unfold maxStr; omega
    have a7 : at' / 8 < 8192 := by omega
    have f1 : bitsOf .or .i64 ((at' / 8 : Nat) : Int) 16384 = ((at' / 8 + 16384 : Nat) : Int) := by
      rw [show (16384 : Int) = ((16384 : Nat) : Int) from rfl, bits_or_nat (by simp [IntKind.max, IntKind.signed, IntKind.bits]; omega) (by decide), or_df a7]
    have f2 : bitsOf .or .i64 ((at' / 8 : Nat) : Int) 8192 = ((at' / 8 + 8192 : Nat) : Int) := by
      rw [show (8192 : Int) = ((8192 : Nat) : Int) from rfl, bits_or_nat (by simp [IntKind.max, IntKind.signed, IntKind.bits]; omega) (by decide), or_mo a7]
    have f3 : bitsOf .or .i64 ((at' / 8 + 16384 : Nat) : Int) 8192 = ((at' / 8 + 16384 + 8192 : Nat) : Int) := by
      rw [show (8192 : Int) = ((8192 : Nat) : Int) from rfl, bits_or_nat (by simp [IntKind.max, IntKind.signed, IntKind.bits]; omega) (by decide), or_dm a7]
    unfold hd4 at hby ho
    have ht1 : fr.take 4 = fr := List.take_of_length_le (by omega)
    have ht2 : to.take 4 = to := List.take_of_length_le (by omega)
    have m2 : 2 ≤ maxStr := by decide
    have m4 : 4 ≤ maxStr := by decide
    have m6 : 6 ≤ maxStr := by decide
    have m8 : 8 ≤ maxStr := by decide
    have m9 : 9 ≤ maxStr := by decide
    have m10 : 10 ≤ maxStr := by decide
    cases df
    · cases mo
      · have g5 : at4 at' false false = at' / 8 := by unfold at4; simp
        rw [g5] at b5 hby ho
        simp only [go_sem, ↓reduceIte, reduceCtorEq, upd_ne, @back_new _ _ _ _ _ no_at, Nat.reduceAdd, Nat.reduceEqDiff, Nat.reduceMul, Nat.reduceSub, Nat.reduceLeDiff, Nat.reduceLT, Int.reduceToNat, Int.reduceLE, Int.reduceLT, Int.reduceEq, UInt8.reduceOfNat, hw, c, hfr, hto, e1, e2, e3, e4, e5, b1, b2, b3, b4, b5, b6, b7, b8, ho, hl, ht1, ht2, toBytes_byteLV, m2, m4, m6, m8, m9, m10, List.append_assoc, List.length_append]
        simp only [hby, fE, if_true, List.append_assoc]
        repeat rw [if_pos (by unfold maxStr; omega)]
      · have g5 : at4 at' false true = at' / 8 + 8192 := by unfold at4; simp
        rw [g5] at b5 hby ho
        simp only [go_sem, ↓reduceIte, reduceCtorEq, upd_ne, @back_new _ _ _ _ _ no_at, Nat.reduceAdd, Nat.reduceEqDiff, Nat.reduceMul, Nat.reduceSub, Nat.reduceLeDiff, Nat.reduceLT, Int.reduceToNat, Int.reduceLE, Int.reduceLT, Int.reduceEq, UInt8.reduceOfNat, hw, c, hfr, hto, e1, e2, e3, e4, e5, f2, b1, b2, b3, b4, b5, b6, b7, b8, ho, hl, ht1, ht2, toBytes_byteLV, m2, m4, m6, m8, m9, m10, List.append_assoc, List.length_append]
        simp only [hby, fE, if_true, List.append_assoc]
        repeat rw [if_pos (by unfold maxStr; omega)]
    · cases mo
      · have g5 : at4 at' true false = at' / 8 + 16384 := by unfold at4; simp
        rw [g5] at b5 hby ho
        simp only [go_sem, ↓reduceIte, reduceCtorEq, upd_ne, @back_new _ _ _ _ _ no_at, Nat.reduceAdd, Nat.reduceEqDiff, Nat.reduceMul, Nat.reduceSub, Nat.reduceLeDiff, Nat.reduceLT, Int.reduceToNat, Int.reduceLE, Int.reduceLT, Int.reduceEq, UInt8.reduceOfNat, hw, c, hfr, hto, e1, e2, e3, e4, e5, f1, b1, b2, b3, b4, b5, b6, b7, b8, ho, hl, ht1, ht2, toBytes_byteLV, m2, m4, m6, m8, m9, m10, List.append_assoc, List.length_append]
        simp only [hby, fE, if_true, List.append_assoc]
        repeat rw [if_pos (by unfold maxStr; omega)]
      · have g5 : at4 at' true true = at' / 8 + 16384 + 8192 := by unfold at4; simp
        rw [g5] at b5 hby ho
        simp only [go_sem, ↓reduceIte, reduceCtorEq, upd_ne, @back_new _ _ _ _ _ no_at, Nat.reduceAdd, Nat.reduceEqDiff, Nat.reduceMul, Nat.reduceSub, Nat.reduceLeDiff, Nat.reduceLT, Int.reduceToNat, Int.reduceLE, Int.reduceLT, Int.reduceEq, UInt8.reduceOfNat, hw, c, hfr, hto, e1, e2, e3, e4, e5, f1, f3, b1, b2, b3, b4, b5, b6, b7, b8, ho, hl, ht1, ht2, toBytes_byteLV, m2, m4, m6, m8, m9, m10, List.append_assoc, List.length_append]
        simp only [hby, fE, if_true, List.append_assoc]
        repeat rw [if_pos (by unfold maxStr; omega)]
  · have hw' : ¬ why4 tos id ttl pt at' mo op da = 0 := c
    simp only [go_sem, ↓reduceIte, reduceCtorEq, upd_ne, @back_new _ _ _ _ _ no_at, Nat.reduceAdd, Nat.reduceEqDiff, Nat.reduceMul, Nat.reduceSub, Nat.reduceLeDiff, Nat.reduceLT, Int.reduceToNat, Int.reduceLE, Int.reduceLT, Int.reduceEq, UInt8.reduceOfNat, hw, hfa, c, hfr, hto, fE]
end
end Go.Ev

namespace Go.Ev
set_option linter.unusedSimpArgs false
set_option linter.unusedVariables false
set_option maxRecDepth 4000
set_option maxHeartbeats 2000000
def tagL (t : Nat) : List LV → LV
  | [] => .nils
  | x :: l => .lst (some (t, 1)) (x :: l)
def tagS (t sz : Nat) : List LV → Slots
  | [] => noSlots
  | x :: l => upd noSlots t (.tag 1 (l.length + 1) sz)
section
variable {t e by' : Nat} {l : List LV} {x : LV} {sl : Slots} {R : Type} {K : LV → Option R}
theorem wApp_tag (hl : (l.all fun v => decide (flatLen v = e)) = true) (hx : flatLen x = e) (hb : (l.length + 1) * by' ≤ 1099511627776) :
    wAppend e by' t (tagS t e l) (tagL t l) (.lst none [x]) = some (tagL t (l ++ [x]), tagS t e (l ++ [x])) := by
  have hn : (([x] : List LV).all fun v => decide (flatLen v = e)) = true := by simp [hx]
  cases l with
  | nil =>
    simp only [tagL, tagS, wAppend, newEls, hn, if_true, Option.bind_some]
    rw [if_neg (by simp), if_pos (by simpa using hb)]
    rfl
  | cons y l =>
    simp only [tagL, tagS, wAppend, newEls, hn, if_true, Option.bind_some, upd_same]
    rw [if_neg (by simp), if_pos ⟨trivial, rfl, trivial, hl, by simpa using hb⟩]
    simp only [upd_upd, List.cons_append, List.length_append, List.length_cons, List.length_nil]
theorem tg_len : ob (pr.len false (tagL t l)) K = K (.int .i64 (l.length : Int)) := by
  cases l with
  | nil => exact e_lenN
  | cons y l => exact e_lenL
theorem tg_ag : LV.isAgg (tagL t l) = false := by cases l <;> exact Eq.trans rfl rfl
theorem tg_st : stor (tagL t l) = true := by cases l <;> exact Eq.trans rfl rfl
theorem tg_pl : plainRes (tagL t l) = true := by cases l <;> exact Eq.trans rfl rfl
theorem tg_fl : flatLen (tagL t l) = 1 := by cases l <;> simp only [tagL, flatLen]
theorem tg_ps : psl (tagL t l) = some (.lst none l) := by cases l <;> simp only [tagL, psl]
theorem tg_sv : sealV sl (tagL t l) = some (.lst none l) := by cases l <;> simp only [tagL, sealV, psl]
theorem tg_ov : outV none sl (tagL t l) = some (.lst none l) := by cases l <;> simp only [tagL, outV, sealV, psl]
theorem tg_rf : refOk (tagS t e l) (tagL t l) = true := by
  cases l with
  | nil => simp only [tagL, refOk]
  | cons y l => simp only [tagL, tagS, refOk, upd_same]
theorem tg_bk : back noSlots (tagS t e l) = tagS t e l := by
  cases l with
  | nil => exact back_self
  | cons y l => exact c_bktag
theorem ext_flat (l : List (Int × List UInt8)) : ((l.map extLV).all fun v => decide (flatLen v = 2)) = true := by
  rw [List.all_eq_true]
  intro v hv
  obtain ⟨w, _, rfl⟩ := List.mem_map.1 hv
  simp [flatLen, sumLen]
end
attribute [go_sem ↓] tg_len tg_ag tg_st tg_pl tg_fl tg_ps tg_sv tg_ov tg_rf tg_bk
end Go.Ev

namespace Go.Ev
set_option linter.unusedSimpArgs false
set_option linter.unusedVariables false
set_option maxRecDepth 10000
set_option maxHeartbeats 8000000
def numN (l : List UInt8) : Nat := l.foldl (fun x c => x * 256 + c.toNat) 0
theorem numN_snoc (l : List UInt8) (c : UInt8) : numN (l ++ [c]) = numN l * 256 + c.toNat := by simp [numN]
theorem numN_lt' : ∀ (l : List UInt8) (x : Nat), l.foldl (fun x c => x * 256 + c.toNat) x < (x + 1) * 256 ^ l.length
  | [], x => by simp
  | c :: l, x => by
    have h := numN_lt' l (x * 256 + c.toNat)
    have hc := c.toNat_lt
    have h2 : (x * 256 + c.toNat + 1) * 256 ^ l.length ≤ ((x + 1) * 256) * 256 ^ l.length := Nat.mul_le_mul_right _ (by omega)
    rw [List.foldl_cons, List.length_cons, Nat.pow_succ, Nat.mul_comm (256 ^ l.length) 256, ← Nat.mul_assoc]
    omega
theorem numN_lt (l : List UInt8) : numN l < 256 ^ l.length := by
  have := numN_lt' l 0
  unfold numN
  omega
abbrev rdLV (s : List UInt8) (a : Nat) : LV := .agg [.str s, .int .i64 (a : Int), .int .i64 0, .int .i64 0]
theorem drop_take_one {s : List UInt8} {i : Nat} {c : UInt8} (h : s[i]? = some c) : (s.drop i).take 1 = [c] := by
  obtain ⟨hi, rfl⟩ := List.getElem?_eq_some_iff.1 h
  rw [List.drop_eq_getElem_cons hi]; rfl
theorem drop_take_snoc {s : List UInt8} {a i : Nat} {c : UInt8} (h : s[a + i]? = some c) : (s.drop a).take (i + 1) = (s.drop a).take i ++ [c] := by
  rw [List.take_add_one, List.getElem?_drop, h]; rfl
theorem numN_two {s : List UInt8} {i : Nat} (h : i + 2 ≤ s.length) : numN ((s.drop i).take 2) = wAt s i := by
  have ha := get_def (s := s) (i := i) (by omega)
  have hb := get_def (s := s) (i := i + 1) (by omega)
  rw [drop_take_snoc hb, show (s.drop i).take 1 = [s.getD i 0] from drop_take_one ha]
  simp only [numN, List.foldl_cons, List.foldl_nil, List.cons_append, List.nil_append, wAt, w16]
  omega
theorem sub_get {s : List UInt8} {a i m : Nat} (h : i < m) (hl : a + i < s.length) : ((s.drop a).take m)[i]? = some (s.getD (a + i) 0) := by
  rw [List.getElem?_take_of_lt h, List.getElem?_drop, get_def hl]
theorem num4_lt (s : List UInt8) : numN (s.take 4) < 4294967296 := by
  have h := numN_lt (s.take 4)
  have h2 : 256 ^ (s.take 4).length ≤ 256 ^ 4 := Nat.pow_le_pow_right (by decide) (by rw [List.length_take]; omega)
  have h3 : (256 : Nat) ^ 4 = 4294967296 := by decide
  omega
end Go.Ev

namespace Go.Ev
set_option linter.unusedSimpArgs false
set_option linter.unusedVariables false
set_option maxRecDepth 4000
set_option maxHeartbeats 2000000
abbrev nrLV (s : List UInt8) (a : Nat) : LV := .agg [.str s, .int .i64 (a : Int), .nilp]
theorem ps_nr {s : List UInt8} {a : Nat} : psl (nrLV s a) = some (nrLV s a) := by simp [psl, pslL]
attribute [go_sem ↓] ps_nr
theorem shl_or (x : Nat) (c : UInt8) (hx : x ≤ 4294967296) : bitsOf .or .i64 (((x * 256 : Nat)) : Int) (c.toNat : Int) = ((x * 256 + c.toNat : Nat) : Int) := by
  have hc := c.toNat_lt
  rw [bits_or_nat (by simp [IntKind.max, IntKind.signed, IntKind.bits]; omega) (by simp [IntKind.max, IntKind.signed, IntKind.bits]; omega)]
  congr 1
  rw [show x * 256 = x <<< 8 by rw [Nat.shiftLeft_eq], ← Nat.shiftLeft_add_eq_or_of_lt hc]
section
variable {S : Sys} (hS : Has S) (n : Nat)
include hS
theorem ev_nText (s : List UInt8) (a m : Nat) (h : a + m ≤ s.length) (hs : s.length ≤ 140737488351232) :
    S.ev (n + 1) id_num_Reader_Text [.ptr 0 0 [] 0, .int .i64 (m : Int)] (some (nrLV s a)) = some (.tup [.str ((s.drop a).take m), .nili], some (nrLV s (a + m))) := by
  rw [Sys.step hS.h_num_Reader_Text, F_num_Reader_Text_eq]
  unfold F_num_Reader_Text
  (try simp only [guard_merge, or_merge, and_merge, or_pick, and_pick, guard_or, guard_and]); simp only [to_ob]
  have f1 : ¬ (m : Int) < 0 := by omega
  have e1 : IntKind.i64.wrap ((s.length : Int) - (a : Int)) = ((s.length - a : Nat) : Int) := by rw [wrap_id (by omega) (by omega)]; omega
  have f2 : ¬ ((s.length - a : Nat) : Int) < (m : Int) := by omega
  have e2 : IntKind.i64.wrap ((a : Int) + (m : Int)) = ((a + m : Nat) : Int) := by rw [wrap_id (by omega) (by omega)]; omega
  have f3 : a ≤ a + m := by omega
  have f4 : a + m - a = m := by omega
  simp only [go_sem, ↓reduceIte, reduceCtorEq, upd_ne, @back_new _ _ _ _ _ no_at, Nat.reduceAdd, Nat.reduceEqDiff, Nat.reduceMul, Nat.reduceSub, Nat.reduceLeDiff, Nat.reduceLT, Int.reduceToNat, Int.reduceLE, Int.reduceLT, Int.reduceEq, UInt8.reduceOfNat, f1, e1, f2, e2, f3, f4, h]
theorem ev_nNumber (s : List UInt8) (a m : Nat) (h : a + m ≤ s.length) (hm : m ≤ 4) (hs : s.length ≤ 140737488351232) :
    S.ev (n + 2) id_num_Reader_number [.ptr 0 0 [] 0, .int .i64 (m : Int)] (some (nrLV s a)) = some (.tup [.int .i64 ((numN ((s.drop a).take m) : Nat) : Int), .nili], some (nrLV s (a + m))) := by
  rw [Sys.step hS.h_num_Reader_number, F_num_Reader_number_eq]
  unfold F_num_Reader_number
  have ht := ev_nText hS n s a m h hs
  (try simp only [guard_merge, or_merge, and_merge, or_pick, and_pick, guard_or, guard_and]); simp only [to_ob]
  simp only [go_sem, ↓reduceIte, reduceCtorEq, upd_ne, @back_new _ _ _ _ _ no_at, Nat.reduceAdd, Nat.reduceEqDiff, Nat.reduceMul, Nat.reduceSub, Nat.reduceLeDiff, Nat.reduceLT, Int.reduceToNat, Int.reduceLE, Int.reduceLT, Int.reduceEq, UInt8.reduceOfNat, ht]
  have hul : ((s.drop a).take m).length = m := by rw [List.length_take, List.length_drop]; omega
  generalize (s.drop a).take m = u at *
  refine while_rule (fun k q => ∃ i : Nat, i + k = m ∧ q = ([.int .i64 ((numN (u.take i) : Nat) : Int), .int .i64 (i : Int)], upd noSlots 0 (.obj 0 (nrLV s (a + m))))) m ⟨0, by omega, by simp [numN]⟩ ?_
  rintro k q ⟨i, hi, rfl⟩
  simp only [go_sem, ↓reduceIte, reduceCtorEq, upd_ne, @back_new _ _ _ _ _ no_at, Nat.reduceAdd, Nat.reduceEqDiff, Nat.reduceMul, Nat.reduceSub, Nat.reduceLeDiff, Nat.reduceLT, Int.reduceToNat, Int.reduceLE, Int.reduceLT, Int.reduceEq, UInt8.reduceOfNat, hul]
  refine nxt_ite (fun h => ?_) (fun h => ?_)
  · have hlt : i < u.length := by omega
    obtain ⟨c, hc⟩ : ∃ c, u[i]? = some c := ⟨u[i], by simp [hlt]⟩
    have htk : u.take (i + 1) = u.take i ++ [c] := by rw [List.take_add_one, hc]; rfl
    have hb := numN_lt (u.take i)
    have hb2 : 256 ^ (u.take i).length ≤ 256 ^ 3 := Nat.pow_le_pow_right (by decide) (by rw [List.length_take]; omega)
    have hb3 : (256 : Nat) ^ 3 = 16777216 := by decide
    have hcl := c.toNat_lt
    have e1 : IntKind.i64.wrap (((numN (u.take i) : Nat) : Int) * 2 ^ min 8 64) = ((numN (u.take i) * 256 : Nat) : Int) := by rw [show min 8 64 = 8 from rfl, wrap_id (by omega) (by omega)]; omega
    have e2 : IntKind.i64.wrap (c.toNat : Int) = (c.toNat : Int) := wrap_id (by omega) (by omega)
    have e3 := shl_or (numN (u.take i)) c (by omega)
    have e4 : IntKind.i64.wrap ((i : Int) + 1) = ((i + 1 : Nat) : Int) := by rw [wrap_id (by omega) (by omega)]; omega
    simp only [go_sem, ↓reduceIte, reduceCtorEq, upd_ne, @back_new _ _ _ _ _ no_at, Nat.reduceAdd, Nat.reduceEqDiff, Nat.reduceMul, Nat.reduceSub, Nat.reduceLeDiff, Nat.reduceLT, Int.reduceToNat, Int.reduceLE, Int.reduceLT, Int.reduceEq, UInt8.reduceOfNat, List.getElem?_map, Int.toNat_natCast, hc, e1, e2, e3, e4]
    exact ⟨k - 1, by omega, i + 1, by omega, by rw [htk, numN_snoc]⟩
  · obtain rfl : i = m := by omega
    rw [List.take_of_length_le (by omega)]
    simp only [go_sem, ↓reduceIte, reduceCtorEq, upd_ne, @back_new _ _ _ _ _ no_at, Nat.reduceAdd, Nat.reduceEqDiff, Nat.reduceMul, Nat.reduceSub, Nat.reduceLeDiff, Nat.reduceLT, Int.reduceToNat, Int.reduceLE, Int.reduceLT, Int.reduceEq, UInt8.reduceOfNat, Nxt, exIf]
theorem ev_U32 (s : List UInt8) (a : Nat) (h : a + 4 ≤ s.length) (hs : s.length ≤ 140737488351232) :
    S.ev (n + 3) id_num_Reader_U32 [.ptr 0 0 [] 0] (some (nrLV s a)) = some (.tup [.int .i64 ((numN ((s.drop a).take 4) : Nat) : Int), .nili], some (nrLV s (a + 4))) := by
  rw [Sys.step hS.h_num_Reader_U32, F_num_Reader_U32_eq]
  unfold F_num_Reader_U32
  have ht : S.ev (n + 2) id_num_Reader_number [.ptr 0 0 [] 0, .int .i64 4] (some (nrLV s a)) = some (.tup [.int .i64 ((numN ((s.drop a).take 4) : Nat) : Int), .nili], some (nrLV s (a + 4))) := ev_nNumber hS n s a 4 h (by omega) hs
  (try simp only [guard_merge, or_merge, and_merge, or_pick, and_pick, guard_or, guard_and]); simp only [to_ob]
  simp only [go_sem, ↓reduceIte, reduceCtorEq, upd_ne, @back_new _ _ _ _ _ no_at, Nat.reduceAdd, Nat.reduceEqDiff, Nat.reduceMul, Nat.reduceSub, Nat.reduceLeDiff, Nat.reduceLT, Int.reduceToNat, Int.reduceLE, Int.reduceLT, Int.reduceEq, UInt8.reduceOfNat, ht]
theorem ev_New (s : List UInt8) : S.ev (n + 1) id_num_New [.str s] none = some (.fresh (nrLV s 0), none) := by
  rw [Sys.step hS.h_num_New, F_num_New_eq]
  unfold F_num_New
  (try simp only [guard_merge, or_merge, and_merge, or_pick, and_pick, guard_or, guard_and]); simp only [to_ob]
  simp only [go_sem, ↓reduceIte, reduceCtorEq, upd_ne, @back_new _ _ _ _ _ no_at, Nat.reduceAdd, Nat.reduceEqDiff, Nat.reduceMul, Nat.reduceSub, Nat.reduceLeDiff, Nat.reduceLT, Int.reduceToNat, Int.reduceLE, Int.reduceLT, Int.reduceEq, UInt8.reduceOfNat, Int.natCast_zero]
  try rfl
end
end Go.Ev

namespace Go.Ev
set_option linter.unusedSimpArgs false
set_option linter.unusedVariables false
set_option maxRecDepth 4000
set_option maxHeartbeats 4000000
abbrev ChR := Int × List (Int × List UInt8) × Int × List UInt8
abbrev isE (k : Int) : Prop := (k = 0 ∨ k = 43) ∨ k = 60
def sz6 (s : List UInt8) : Nat := 8 * (1 + bAt s 1)
def chC : Nat → Bool → Int → List UInt8 → ChR
  | 0, first, next, s => if isE next then (if next = 0 ∧ first = false then (8, [], 0, []) else (3, [], 0, [])) else (0, [], next, s)
  | k + 1, first, next, s =>
    if isE next then
      if next = 0 ∧ first = false then (8, [], 0, [])
      else if s.length < sz6 s then (7, [], 0, [])
      else
        let r := chC k false ((bAt s 0 : Nat) : Int) (s.drop (sz6 s))
        if r.1 = 0 then (0, (next, (s.drop 2).take (sz6 s - 2)) :: r.2.1, r.2.2) else r
    else (0, [], next, s)
def chP (acc : List (Int × List UInt8)) (r : ChR) : ChR := if r.1 = 0 then (0, acc ++ r.2.1, r.2.2) else r
theorem chC_err : ∀ (k : Nat) (f : Bool) (next : Int) (s : List UInt8), (chC k f next s).1 ≠ 0 → chC k f next s = ((chC k f next s).1, [], 0, [])
  | 0, f, next, s => by
    unfold chC
    split
    · split <;> simp
    · simp
  | k + 1, f, next, s => by
    unfold chC
    split
    · split
      · simp
      · split
        · simp
        · simp only
          split
          · simp
          · rename_i h
            intro _
            exact chC_err k false _ _ h
    · simp
theorem chP_nil (k : Nat) (f : Bool) (next : Int) (s : List UInt8) : chP [] (chC k f next s) = chC k f next s := by
  unfold chP
  split
  · rename_i h
    rw [List.nil_append, ← h]
  · rfl
theorem chP_step {acc : List (Int × List UInt8)} {k : Nat} {f : Bool} {next : Int} {s : List UInt8} (h1 : isE next) (h2 : ¬ (next = 0 ∧ f = false)) (h3 : ¬ s.length < sz6 s) :
    chP acc (chC (k + 1) f next s) = chP (acc ++ [(next, (s.drop 2).take (sz6 s - 2))]) (chC k false ((bAt s 0 : Nat) : Int) (s.drop (sz6 s))) := by
  rw [chC, if_pos h1, if_neg h2, if_neg h3]
  generalize chC k false ((bAt s 0 : Nat) : Int) (s.drop (sz6 s)) = r
  unfold chP
  by_cases h : r.1 = 0
  · simp only [h, if_true, List.append_assoc, List.cons_append, List.nil_append]
  · simp only [h, if_false]
def chLV (r : ChR) : LV := .tup [extsLV r.2.1, .int .i64 r.2.2.1, .str r.2.2.2, fE r.1]
def chLV' (r : ChR) : LV := .tup [extsLV r.2.1, .int .i64 r.2.2.1, .str r.2.2.2, .int .i64 r.1]
section
variable {S : Sys} (hS : Has S) (n : Nat)
include hS
theorem ev_fault6 (c : Int) : S.ev (n + 1) id_ip6_fault [.int .i64 c] none = some (faultLV c, none) := by
  rw [Sys.step hS.h_ip6_fault, F_ip6_fault_eq]
  unfold F_ip6_fault
  simp only [to_ob]
  simp only [go_sem, ↓reduceIte, reduceCtorEq, upd_ne, @back_new _ _ _ _ _ no_at, Nat.reduceAdd, Nat.reduceEqDiff, Nat.reduceMul, Nat.reduceSub, Nat.reduceLeDiff, Nat.reduceLT, Int.reduceToNat, Int.reduceLE, Int.reduceLT, Int.reduceEq, UInt8.reduceOfNat]
theorem ev_extends (k : Int) : S.ev (n + 1) id_ip6_extends [.int .i64 k] none = some (.bool (decide (isE k)), none) := by
  rw [Sys.step hS.h_ip6_extends, F_ip6_extends_eq]
  unfold F_ip6_extends
  (try simp only [guard_merge, or_merge, and_merge, or_pick, and_pick, guard_or, guard_and]); simp only [to_ob]
  by_cases h1 : k = 0 <;> by_cases h2 : k = 43 <;> by_cases h3 : k = 60 <;> simp only [go_sem, ↓reduceIte, reduceCtorEq, upd_ne, @back_new _ _ _ _ _ no_at, Nat.reduceAdd, Nat.reduceEqDiff, Nat.reduceMul, Nat.reduceSub, Nat.reduceLeDiff, Nat.reduceLT, Int.reduceToNat, Int.reduceLE, Int.reduceLT, Int.reduceEq, UInt8.reduceOfNat, h1, h2, h3] <;> first | rfl | simp [h1, h2, h3]
theorem ev_chain6 (next : Int) (s : List UInt8) (hs : s.length ≤ 140737488351232) : S.ev (n + 2) id_ip6_Chain [.int .i64 next, .str s] none = some (chLV (chC 8 true next s), none) := by
  rw [Sys.step hS.h_ip6_Chain, F_ip6_Chain_eq]
  unfold F_ip6_Chain F_ip6_Chain_k2 F_ip6_Chain_k1
  have hx := ev_extends hS n
  have hfa := ev_fault6 hS n
  (try simp only [guard_merge, or_merge, and_merge, or_pick, and_pick, guard_or, guard_and]); simp only [to_ob]
  refine while_rule (fun k q => ∃ (acc : List (Int × List UInt8)) (next' : Int) (t : List UInt8), q = ([tagL 49 (acc.map extLV), .int .i64 0, .str [], .nili, .int .i64 next', .str t], tagS 49 2 (acc.map extLV)) ∧ acc.length + k = 8 ∧ t.length ≤ s.length ∧ chP acc (chC k acc.isEmpty next' t) = chC 8 true next s) 8 ⟨[], next, s, rfl, rfl, Nat.le_refl _, chP_nil _ _ _ _⟩ ?_
  rintro k q ⟨acc, next', t, rfl, hk, ht, hr⟩
  by_cases c1 : isE next'
  · have c1' : decide (isE next') = true := decide_eq_true c1
    by_cases c2 : next' = 0 ∧ acc.isEmpty = false
    · have c2' := c2
      obtain ⟨rfl, c2x⟩ := c2'
      have c2a : 0 < (acc.length : Int) := by
        cases acc with
        | nil => simp at c2x
        | cons x l => simp only [List.length_cons]; omega
      have hr : chC 8 true next s = (8, [], 0, []) := by
        rw [← hr]
        cases k with
        | zero => rw [chC, if_pos c1, if_pos c2]; rfl
        | succ k => rw [chC, if_pos c1, if_pos c2]; rfl
      rw [hr]
      by_cases c3 : 2 ≤ t.length
      · have c3' : 2 ≤ (t.length : Int) := by omega
        have g1 := get_def (s := t) (i := 1) (by omega)
        simp only [go_sem, ↓reduceIte, reduceCtorEq, upd_ne, @back_new _ _ _ _ _ no_at, Nat.reduceAdd, Nat.reduceEqDiff, Nat.reduceMul, Nat.reduceSub, Nat.reduceLeDiff, Nat.reduceLT, Int.reduceToNat, Int.reduceLE, Int.reduceLT, Int.reduceEq, UInt8.reduceOfNat, List.getElem?_map, Int.toNat_natCast, hx, hfa, c1', c2a, c3', g1, List.length_map, Nxt, exIf, chLV, fE]
        try rfl
      · have c3' : ¬ 2 ≤ (t.length : Int) := by omega
        simp only [go_sem, ↓reduceIte, reduceCtorEq, upd_ne, @back_new _ _ _ _ _ no_at, Nat.reduceAdd, Nat.reduceEqDiff, Nat.reduceMul, Nat.reduceSub, Nat.reduceLeDiff, Nat.reduceLT, Int.reduceToNat, Int.reduceLE, Int.reduceLT, Int.reduceEq, UInt8.reduceOfNat, List.getElem?_map, Int.toNat_natCast, hx, hfa, c1', c2a, c3', List.length_map, Nxt, exIf, chLV, fE]
        try rfl
    · have c2b : ¬ (next' = 0 ∧ 0 < (acc.length : Int)) := by
        rintro ⟨h1, h2⟩
        apply c2
        refine ⟨h1, ?_⟩
        cases acc with
        | nil => simp at h2
        | cons x l => rfl
      have hd : (andK (.bool (decide (next' = 0))) (some (.bool (decide (0 < (acc.length : Int)))))) = some (.bool false) := by
        by_cases h : next' = 0
        · have : ¬ 0 < (acc.length : Int) := fun q => c2b ⟨h, q⟩
          rw [decide_eq_true h, decide_eq_false this]; rfl
        · rw [decide_eq_false h]; rfl
      cases k with
      | zero =>
        have c4 : 8 ≤ (acc.length : Int) := by omega
        have hr : chC 8 true next s = (3, [], 0, []) := by
          rw [← hr, chC, if_pos c1, if_neg c2]; rfl
        rw [hr]
        by_cases c3 : 2 ≤ t.length
        · have c3' : 2 ≤ (t.length : Int) := by omega
          have g1 := get_def (s := t) (i := 1) (by omega)
          simp only [go_sem, ↓reduceIte, reduceCtorEq, upd_ne, @back_new _ _ _ _ _ no_at, Nat.reduceAdd, Nat.reduceEqDiff, Nat.reduceMul, Nat.reduceSub, Nat.reduceLeDiff, Nat.reduceLT, Int.reduceToNat, Int.reduceLE, Int.reduceLT, Int.reduceEq, UInt8.reduceOfNat, List.getElem?_map, Int.toNat_natCast, hx, hfa, c1', hd, c4, c3', g1, List.length_map, Nxt, exIf, chLV, fE]
          try rfl
        · have c3' : ¬ 2 ≤ (t.length : Int) := by omega
          simp only [go_sem, ↓reduceIte, reduceCtorEq, upd_ne, @back_new _ _ _ _ _ no_at, Nat.reduceAdd, Nat.reduceEqDiff, Nat.reduceMul, Nat.reduceSub, Nat.reduceLeDiff, Nat.reduceLT, Int.reduceToNat, Int.reduceLE, Int.reduceLT, Int.reduceEq, UInt8.reduceOfNat, List.getElem?_map, Int.toNat_natCast, hx, hfa, c1', hd, c4, c3', List.length_map, Nxt, exIf, chLV, fE]
          try rfl
      | succ k =>
        have c4 : ¬ 8 ≤ (acc.length : Int) := by omega
        by_cases c3 : 2 ≤ t.length
        · have c3' : 2 ≤ (t.length : Int) := by omega
          have g0 := get_def (s := t) (i := 0) (by omega)
          have g1 := get_def (s := t) (i := 1) (by omega)
          have hb1 := bAt_le t 1
          have hb0 := bAt_le t 0
          have e1 : IntKind.i64.wrap ((t.getD 1 0).toNat : Int) = ((bAt t 1 : Nat) : Int) := wrap_id (by omega) (by unfold bAt at hb1; omega)
          have e0 : IntKind.i64.wrap ((t.getD 0 0).toNat : Int) = ((bAt t 0 : Nat) : Int) := wrap_id (by omega) (by unfold bAt at hb0; omega)
          have e2 : IntKind.i64.wrap (8 + IntKind.i64.wrap (((bAt t 1 : Nat) : Int) * 8)) = ((sz6 t : Nat) : Int) := by
            rw [wrap_id (n := ((bAt t 1 : Nat) : Int) * 8) (by omega) (by omega), wrap_id (by omega) (by omega)]; unfold sz6; omega
          by_cases c5 : t.length < sz6 t
          · have c5' : (t.length : Int) < ((sz6 t : Nat) : Int) := by omega
            have hr : chC 8 true next s = (7, [], 0, []) := by
              rw [← hr, chC, if_pos c1, if_neg c2, if_pos c5]; rfl
            rw [hr]
            simp only [go_sem, ↓reduceIte, reduceCtorEq, upd_ne, @back_new _ _ _ _ _ no_at, Nat.reduceAdd, Nat.reduceEqDiff, Nat.reduceMul, Nat.reduceSub, Nat.reduceLeDiff, Nat.reduceLT, Int.reduceToNat, Int.reduceLE, Int.reduceLT, Int.reduceEq, UInt8.reduceOfNat, List.getElem?_map, Int.toNat_natCast, hx, hfa, c1', hd, c4, c3', g1, byteLV, e1, e2, c5', List.length_map, Nxt, exIf, chLV, fE]
            try rfl
          · have c5' : ¬ (t.length : Int) < ((sz6 t : Nat) : Int) := by omega
            have l1 : sz6 t ≤ t.length := by omega
            have l2 : 2 ≤ sz6 t := by unfold sz6; omega
            have ha := wApp_tag (t := 49) (by' := 24) (ext_flat acc) (show flatLen (extLV (next', (t.drop 2).take (sz6 t - 2))) = 2 by simp [flatLen, sumLen]) (by simp; omega)
            have hm : acc.map extLV ++ [extLV (next', (t.drop 2).take (sz6 t - 2))] = (acc ++ [(next', (t.drop 2).take (sz6 t - 2))]).map extLV := by simp
            rw [hm] at ha
            simp only [go_sem, ↓reduceIte, reduceCtorEq, upd_ne, @back_new _ _ _ _ _ no_at, Nat.reduceAdd, Nat.reduceEqDiff, Nat.reduceMul, Nat.reduceSub, Nat.reduceLeDiff, Nat.reduceLT, Int.reduceToNat, Int.reduceLE, Int.reduceLT, Int.reduceEq, UInt8.reduceOfNat, List.getElem?_map, Int.toNat_natCast, hx, hfa, c1', hd, c4, c3', g0, g1, byteLV, e0, e1, e2, c5', l1, l2, ha, List.length_map, Nat.le_refl]
            refine ⟨k, by omega, acc ++ [(next', (t.drop 2).take (sz6 t - 2))], ((bAt t 0 : Nat) : Int), t.drop (sz6 t), ?_, by simp; omega, by simp; omega, ?_⟩
            · rfl
            · rw [← hr, chP_step c1 c2 c5]
              congr 2
              cases acc <;> rfl
        · have c3' : ¬ 2 ≤ (t.length : Int) := by omega
          have c5 : t.length < sz6 t := by unfold sz6; omega
          have c5' : (t.length : Int) < 8 := by omega
          have hr : chC 8 true next s = (7, [], 0, []) := by
            rw [← hr, chC, if_pos c1, if_neg c2, if_pos c5]; rfl
          rw [hr]
          simp only [go_sem, ↓reduceIte, reduceCtorEq, upd_ne, @back_new _ _ _ _ _ no_at, Nat.reduceAdd, Nat.reduceEqDiff, Nat.reduceMul, Nat.reduceSub, Nat.reduceLeDiff, Nat.reduceLT, Int.reduceToNat, Int.reduceLE, Int.reduceLT, Int.reduceEq, UInt8.reduceOfNat, List.getElem?_map, Int.toNat_natCast, hx, hfa, c1', hd, c4, c3', c5', List.length_map, Nxt, exIf, chLV, fE]
          try rfl
  · have c1' : decide (isE next') = false := decide_eq_false c1
    have hr : chC 8 true next s = (0, acc, next', t) := by
      rw [← hr]
      cases k with
      | zero => rw [chC, if_neg c1]; simp [chP]
      | succ k => rw [chC, if_neg c1]; simp [chP]
    rw [hr]
    simp only [go_sem, ↓reduceIte, reduceCtorEq, upd_ne, @back_new _ _ _ _ _ no_at, Nat.reduceAdd, Nat.reduceEqDiff, Nat.reduceMul, Nat.reduceSub, Nat.reduceLeDiff, Nat.reduceLT, Int.reduceToNat, Int.reduceLE, Int.reduceLT, Int.reduceEq, UInt8.reduceOfNat, List.getElem?_map, Int.toNat_natCast, hx, c1', Nxt, exIf, chLV, fE]
    try rfl
end
end Go.Ev

namespace Go.Ev
set_option linter.unusedSimpArgs false
set_option linter.unusedVariables false
set_option maxRecDepth 4000
set_option maxHeartbeats 8000000
abbrev y16 : List UInt8 := [0, 0, 0, 0, 0, 0, 0, 0, 0, 0, 0, 0, 0, 0, 0, 0]
abbrev z6LV : LV := ip6LV 0 0 0 y16 y16 (.lst none []) false 0 0 false 0 []
def k6 (s : List UInt8) : ChR := chC 8 true ((bAt s 6 : Nat) : Int) ((s.drop 40).take (wAt s 4))
def okF6 (mo : Bool) (at' : Nat) (da : List UInt8) : Prop := (mo = true → da.length ≠ 0 ∧ da.length % 8 = 0) ∧ at' + da.length ≤ 65535
instance (mo : Bool) (at' : Nat) (da : List UInt8) : Decidable (okF6 mo at' da) := by unfold okF6; infer_instance
def fa6 (r : List UInt8) : Nat := wAt r 2 / 8 * 8
def fm6 (r : List UInt8) : Bool := decide (wAt r 2 % 2 = 1)
def fi6 (r : List UInt8) : Nat := numN ((r.drop 4).take 4)
def kF6 (r : List UInt8) : Int := if r.length < 8 then 7 else if okF6 (fm6 r) (fa6 r) (r.drop 8) then 0 else 8
def kR6 (k : ChR) : Int := if k.1 ≠ 0 then k.1 else if k.2.2.1 ≠ 44 then 0 else kF6 k.2.2.2
def pK6 (s : List UInt8) : Int :=
  if s.length < 40 then 7 else if bAt s 0 / 16 ≠ 6 then 8 else if s.length < 40 + wAt s 4 then 7 else kR6 (k6 s)
def pcl6 (s : List UInt8) : Int := ((numN (s.take 4) / 1048576 % 256 : Nat) : Int)
def pfl6 (s : List UInt8) : Int := ((numN (s.take 4) % 1048576 : Nat) : Int)
def pfr6 (s : List UInt8) : List UInt8 := (s.drop 8).take 16
def pto6 (s : List UInt8) : List UInt8 := (s.drop 24).take 16
def mk6 (s : List UInt8) (k : ChR) : LV :=
  if k.2.2.1 = 44 then ip6LV (pcl6 s) (pfl6 s) (bAt s 7 : Nat) (pfr6 s) (pto6 s) (extsLV k.2.1) true (fi6 k.2.2.2 : Nat) (fa6 k.2.2.2 : Nat) (fm6 k.2.2.2) (bAt k.2.2.2 0 : Nat) (k.2.2.2.drop 8)
  else ip6LV (pcl6 s) (pfl6 s) (bAt s 7 : Nat) (pfr6 s) (pto6 s) (extsLV k.2.1) false 0 0 false k.2.2.1 k.2.2.2
def pLV6 (s : List UInt8) : LV := if pK6 s = 0 then mk6 s (k6 s) else z6LV
theorem wc3 {sl : Slots} {t g : Nat} {cl fl ho : Int} {fr to : List UInt8} {ex : LV} {fg : Bool} {id at' : Int} {mo : Bool} {pt : Int} {da s : List UInt8} (hf : fr.length = 16) (hs : 16 ≤ s.length) :
    wCopy (upd sl t (.obj g (ip6LV cl fl ho fr to ex fg id at' mo pt da))) (.arr t g [3] 3 0 16) (.str s) = some (.int .i64 16, upd (upd sl t (.obj g (ip6LV cl fl ho fr to ex fg id at' mo pt da))) t (.obj g (ip6LV cl fl ho (s.take 16) to ex fg id at' mo pt da))) := by
  have h1 : min s.length 16 = 16 := by omega
  have h2 : fr.drop 16 = [] := List.drop_eq_nil_of_le (by omega)
  have hg : getPath (ip6LV cl fl ho fr to ex fg id at' mo pt da) [3] = some (.bytes fr, 3) := by simp only [go_sem, ↓reduceIte, reduceCtorEq, upd_ne, @back_new _ _ _ _ _ no_at, Nat.reduceAdd, Nat.reduceEqDiff, Nat.reduceMul, Nat.reduceSub, Nat.reduceLeDiff, Nat.reduceLT, Int.reduceToNat, Int.reduceLE, Int.reduceLT, Int.reduceEq, UInt8.reduceOfNat]
  have hp : setPath (ip6LV cl fl ho fr to ex fg id at' mo pt da) [3] (.bytes (s.take 16)) = some (ip6LV cl fl ho (s.take 16) to ex fg id at' mo pt da) := by simp only [go_sem, ↓reduceIte, reduceCtorEq, upd_ne, @back_new _ _ _ _ _ no_at, Nat.reduceAdd, Nat.reduceEqDiff, Nat.reduceMul, Nat.reduceSub, Nat.reduceLeDiff, Nat.reduceLT, Int.reduceToNat, Int.reduceLE, Int.reduceLT, Int.reduceEq, UInt8.reduceOfNat]
  unfold wCopy
  simp only [upd_same, if_true, hg]
  rw [if_pos ⟨trivial, by omega⟩]
  simp only [h1, Option.bind_some, List.take_zero, List.nil_append, Nat.zero_add, h2, List.append_nil, hp, Option.map_some]
  rfl
theorem wc4 {sl : Slots} {t g : Nat} {cl fl ho : Int} {fr to : List UInt8} {ex : LV} {fg : Bool} {id at' : Int} {mo : Bool} {pt : Int} {da s : List UInt8} (hf : fr.length = 16) (ht : to.length = 16) (hs : 16 ≤ s.length) :
    wCopy (upd sl t (.obj g (ip6LV cl fl ho fr to ex fg id at' mo pt da))) (.arr t g [4] 19 0 16) (.str s) = some (.int .i64 16, upd (upd sl t (.obj g (ip6LV cl fl ho fr to ex fg id at' mo pt da))) t (.obj g (ip6LV cl fl ho fr (s.take 16) ex fg id at' mo pt da))) := by
  have h1 : min s.length 16 = 16 := by omega
  have h2 : to.drop 16 = [] := List.drop_eq_nil_of_le (by omega)
  have hg : getPath (ip6LV cl fl ho fr to ex fg id at' mo pt da) [4] = some (.bytes to, 19) := by simp only [go_sem, ↓reduceIte, reduceCtorEq, upd_ne, @back_new _ _ _ _ _ no_at, Nat.reduceAdd, Nat.reduceEqDiff, Nat.reduceMul, Nat.reduceSub, Nat.reduceLeDiff, Nat.reduceLT, Int.reduceToNat, Int.reduceLE, Int.reduceLT, Int.reduceEq, UInt8.reduceOfNat, hf]
  have hp : setPath (ip6LV cl fl ho fr to ex fg id at' mo pt da) [4] (.bytes (s.take 16)) = some (ip6LV cl fl ho fr (s.take 16) ex fg id at' mo pt da) := by simp only [go_sem, ↓reduceIte, reduceCtorEq, upd_ne, @back_new _ _ _ _ _ no_at, Nat.reduceAdd, Nat.reduceEqDiff, Nat.reduceMul, Nat.reduceSub, Nat.reduceLeDiff, Nat.reduceLT, Int.reduceToNat, Int.reduceLE, Int.reduceLT, Int.reduceEq, UInt8.reduceOfNat]
  unfold wCopy
  simp only [upd_same, if_true, hg]
  rw [if_pos ⟨trivial, by omega⟩]
  simp only [h1, Option.bind_some, List.take_zero, List.nil_append, Nat.zero_add, h2, List.append_nil, hp, Option.map_some]
  rfl
theorem andNot7 (x : Nat) (h : x ≤ 65535) : bitsOf .andNot .i64 (x : Int) 7 = ((x / 8 * 8 : Nat) : Int) := by
  rw [show (7 : Int) = ((7 : Nat) : Int) from rfl]
  unfold bitsOf
  rw [ofInt_nat, ofInt_nat]
  simp only [BitVec.toNat_and, BitVec.toNat_not, BitVec.toNat_ofNat]
  have e : x % 2 ^ IntKind.i64.bits &&& (2 ^ IntKind.i64.bits - 1 - 7 % 2 ^ IntKind.i64.bits) = x / 8 * 8 := by
    rw [show IntKind.i64.bits = 64 from rfl, Nat.mod_eq_of_lt (by omega), show 2 ^ 64 - 1 - 7 % 2 ^ 64 = (2 ^ 61 - 1) * 2 ^ 3 by decide]
    apply Nat.eq_of_testBit_eq
    intro i
    rw [Nat.testBit_and, Nat.testBit_mul_two_pow, Nat.testBit_two_pow_sub_one, show x / 8 * 8 = (x / 2 ^ 3) * 2 ^ 3 from rfl, Nat.testBit_mul_two_pow, Nat.testBit_div_two_pow]
    by_cases h3 : 3 ≤ i
    · by_cases h4 : i - 3 < 61
      · simp [h3, h4, show i - 3 + 3 = i by omega]
      · have h5 : x.testBit i = false := Nat.testBit_lt_two_pow (by have : 2 ^ 64 ≤ 2 ^ i := Nat.pow_le_pow_right (by decide) (by omega)
                                                                    omega)
        simp [h3, h4, h5, show i - 3 + 3 = i by omega]
    · simp [h3]
  rw [e]
  exact wrap_id (by omega) (by omega)
theorem wrap_u32 {x : Nat} (h : x < 4294967296) : IntKind.u32.wrap (x : Int) = (x : Int) := by
  simp only [IntKind.wrap, IntKind.bits, IntKind.signed]
  simp
  omega
end Go.Ev

namespace Go.Ev
set_option linter.unusedSimpArgs false
set_option linter.unusedVariables false
set_option maxRecDepth 4000
set_option maxHeartbeats 8000000
def kB (ex : List (Int × List UInt8)) : Bool := ex.all fun e => decide (isE e.1)
abbrev fE1 (f : Bool) (e : Int × List UInt8) : Prop := e.2.length % 8 = 6 ∧ e.2.length ≤ 2046 ∧ (e.1 = 0 → f = true)
def fB : Bool → List (Int × List UInt8) → Bool
  | _, [] => true
  | f, e :: l => decide (fE1 f e) && fB false l
def szE : List (Int × List UInt8) → Nat
  | [] => 0
  | e :: l => e.2.length + 2 + szE l
abbrev rg6 (cl fl ho at' pt : Int) : Prop := (0 ≤ cl ∧ cl ≤ 255) ∧ (0 ≤ fl ∧ fl ≤ 1048575) ∧ (0 ≤ ho ∧ ho ≤ 255) ∧ (0 ≤ pt ∧ pt ≤ 255) ∧ (0 ≤ at' ∧ at' ≤ 65528) ∧ Int.tmod at' 8 = 0
abbrev kd6 (ex : List (Int × List UInt8)) (fg : Bool) (pt : Int) : Prop := kB ex = true ∧ (fg = false → ¬ isE pt ∧ pt ≠ 44)
abbrev pc6 (mo : Bool) (da : List UInt8) : Prop := mo = true → da.length ≠ 0 ∧ da.length % 8 = 0
abbrev fm6' (ex : List (Int × List UInt8)) (fg : Bool) (id at' : Int) (mo : Bool) (da : List UInt8) : Prop :=
  fB true ex = true ∧ (if fg = true then pc6 mo da else id = 0 ∧ at' = 0 ∧ mo = false)
def bh6 (ex : List (Int × List UInt8)) (fg : Bool) (da : List UInt8) : Nat := szE ex + (if fg = true then 8 else 0) + da.length
def why6 (cl fl ho : Int) (ex : List (Int × List UInt8)) (fg : Bool) (id at' : Int) (mo : Bool) (pt : Int) (da : List UInt8) : Int :=
  if rg6 cl fl ho at' pt then
    (if kd6 ex fg pt then (if fm6' ex fg id at' mo da then (if ex.length ≤ 8 ∧ at' + da.length ≤ 65535 ∧ bh6 ex fg da ≤ 65535 then 0 else 3) else 8) else 10) else 13
structure SmE (ex : List (Int × List UInt8)) : Prop where
  n : ex.length ≤ 20
  b : ∀ e ∈ ex, e.2.length ≤ 140737488351232
theorem szE_app : ∀ (a b : List (Int × List UInt8)), szE (a ++ b) = szE a + szE b
  | [], b => by simp [szE]
  | e :: a, b => by simp only [List.cons_append, szE, szE_app a b]; omega
theorem szE_le : ∀ (ex : List (Int × List UInt8)), (∀ e ∈ ex, e.2.length ≤ 140737488351232) → szE ex ≤ 140737488351234 * ex.length
  | [], _ => by simp [szE]
  | e :: l, h => by
    have h1 := h e (by simp)
    have h2 := szE_le l fun x hx => h x (by simp [hx])
    simp only [szE, List.length_cons]
    omega
theorem drop_ex {ex : List (Int × List UInt8)} {i : Nat} {e : Int × List UInt8} (h : ex[i]? = some e) : ex.drop i = e :: ex.drop (i + 1) := by
  obtain ⟨hi, rfl⟩ := List.getElem?_eq_some_iff.1 h
  exact List.drop_eq_getElem_cons hi
end Go.Ev

namespace Go.Ev
set_option linter.unusedSimpArgs false
set_option linter.unusedVariables false
set_option maxRecDepth 4000
set_option maxHeartbeats 8000000
def nxE : List (Int × List UInt8) → Int → Int
  | [], p => p
  | e :: _, _ => e.1
def exB : List (Int × List UInt8) → Int → List UInt8 → List UInt8
  | [], _, b => b
  | e :: l, p, b => beB 1 (nxE l p).toNat ++ (beB 1 (e.2.length / 8) ++ (e.2 ++ exB l p b))
def pcB (id at' : Int) (mo : Bool) (pt : Int) (da : List UInt8) : List UInt8 := beB 1 pt.toNat ++ (0 :: (beB 2 (at'.toNat + if mo = true then 1 else 0) ++ (beB 4 id.toNat ++ da)))
def bd6 (ex : List (Int × List UInt8)) (fg : Bool) (id at' : Int) (mo : Bool) (pt : Int) (da : List UInt8) : List UInt8 := if fg = true then exB ex 44 (pcB id at' mo pt da) else exB ex pt da
def by6 (cl fl ho : Int) (fr to : List UInt8) (ex : List (Int × List UInt8)) (fg : Bool) (id at' : Int) (mo : Bool) (pt : Int) (da : List UInt8) : List UInt8 :=
  beB 4 (1610612736 + cl.toNat * 1048576 + fl.toNat) ++ (beB 2 (bd6 ex fg id at' mo pt da).length ++ (beB 1 (nxE ex (if fg = true then 44 else pt)).toNat ++ (beB 1 ho.toNat ++ (fr ++ (to ++ bd6 ex fg id at' mo pt da)))))
def by6R (cl fl ho : Int) (fr to : List UInt8) (ex : List (Int × List UInt8)) (fg : Bool) (id at' : Int) (mo : Bool) (pt : Int) (da : List UInt8) : List UInt8 :=
  if why6 cl fl ho ex fg id at' mo pt da = 0 then by6 cl fl ho fr to ex fg id at' mo pt da else []
structure Ok6 (cl fl ho : Int) (ex : List (Int × List UInt8)) (fg : Bool) (id at' : Int) (mo : Bool) (pt : Int) (da : List UInt8) : Prop where
  rg : rg6 cl fl ho at' pt
  kd : kd6 ex fg pt
  fm : fm6' ex fg id at' mo da
  n8 : ex.length ≤ 8
  all : at' + da.length ≤ 65535
  bh : bh6 ex fg da ≤ 65535
theorem why6_zero {cl fl ho : Int} {ex : List (Int × List UInt8)} {fg : Bool} {id at' : Int} {mo : Bool} {pt : Int} {da : List UInt8} : why6 cl fl ho ex fg id at' mo pt da = 0 ↔ Ok6 cl fl ho ex fg id at' mo pt da := by
  unfold why6
  constructor
  · intro h
    split at h
    case isFalse => simp at h
    rename_i h1
    split at h
    case isFalse => simp at h
    rename_i h2
    split at h
    case isFalse => simp at h
    rename_i h3
    split at h
    case isFalse => simp at h
    rename_i h4
    exact ⟨h1, h2, h3, h4.1, h4.2.1, h4.2.2⟩
  · intro h
    rw [if_pos h.rg, if_pos h.kd, if_pos h.fm, if_pos ⟨h.n8, h.all, h.bh⟩]
theorem fB_le : ∀ (l : List (Int × List UInt8)) (f : Bool), fB f l = true → ∀ e ∈ l, e.2.length % 8 = 6 ∧ e.2.length ≤ 2046
  | [], _, _, e, he => by simp at he
  | x :: l, f, h, e, he => by
    simp only [fB, Bool.and_eq_true, decide_eq_true_eq] at h
    rcases List.mem_cons.1 he with rfl | he
    · exact ⟨h.1.1, h.1.2.1⟩
    · exact fB_le l _ h.2 e he
theorem exB_len : ∀ (l : List (Int × List UInt8)) (p : Int) (b : List UInt8), (exB l p b).length = szE l + b.length
  | [], p, b => by simp [exB, szE]
  | e :: l, p, b => by simp only [exB, szE, List.length_append, beB_len, exB_len l p b]; omega
theorem exB_app (l : List (Int × List UInt8)) (p : Int) (b : List UInt8) : exB l p b = exB l p [] ++ b := by
  induction l with
  | nil => rfl
  | cons e l ih => simp only [exB]; rw [ih]; simp only [List.append_assoc]
theorem nxE_rg {l : List (Int × List UInt8)} {p : Int} (h : kB l = true) (hp : 0 ≤ p ∧ p ≤ 255) : 0 ≤ nxE l p ∧ nxE l p ≤ 255 := by
  cases l with
  | nil => exact hp
  | cons e l =>
    simp only [kB, List.all_cons, Bool.and_eq_true, decide_eq_true_eq] at h
    show 0 ≤ e.1 ∧ e.1 ≤ 255
    rcases h.1 with (h | h) | h <;> omega
theorem szE_drop (l : List (Int × List UInt8)) (i : Nat) : szE (l.drop i) ≤ szE l := by
  conv => rhs; rw [← List.take_append_drop i l, szE_app]
  omega
theorem kB_drop {l : List (Int × List UInt8)} {i : Nat} (h : kB l = true) : kB (l.drop i) = true := by
  unfold kB at *
  rw [List.all_eq_true] at *
  intro e he
  exact h e (List.mem_of_mem_drop he)
theorem or6a {c : Nat} (hc : c ≤ 255) : 1610612736 ||| c * 1048576 = 1610612736 + c * 1048576 := by
  rw [show 1610612736 = 6 <<< 28 by rfl, ← Nat.shiftLeft_add_eq_or_of_lt (by omega)]
theorem or6b {c f : Nat} (hc : c ≤ 255) (hf : f ≤ 1048575) : (1610612736 + c * 1048576) ||| f = 1610612736 + c * 1048576 + f := by
  have h : 1610612736 + c * 1048576 = (1536 + c) <<< 20 := by simp only [Nat.shiftLeft_eq]; omega
  rw [h, ← Nat.shiftLeft_add_eq_or_of_lt (by omega)]
theorem lt4 {x : Int} (h : 0 ≤ x) (h1 : x < 4294967296) : 0 ≤ x ∧ x < ((256 ^ 4 : Nat) : Int) := ⟨h, h1⟩
end Go.Ev

namespace Go.Ev
set_option linter.unusedSimpArgs false
set_option linter.unusedVariables false
set_option maxRecDepth 4000
set_option maxHeartbeats 8000000
section
variable {S : Sys} (hS : Has S) (n : Nat)
include hS
theorem ev_pieced {cl fl ho : Int} {fr to : List UInt8} {ex : List LV} {fg : Bool} {id at' : Int} {mo : Bool} {pt : Int} {da : List UInt8} (hfr : fr.length = 16) (hto : to.length = 16) :
    S.ev (n + 1) id_ip6_pieced [ip6LV cl fl ho fr to (.lst none ex) fg id at' mo pt da] none = some (.bool (decide (mo = true → da.length ≠ 0 ∧ da.length % 8 = 0)), none) := by
  rw [Sys.step hS.h_ip6_pieced, F_ip6_pieced_eq]
  unfold F_ip6_pieced
  (try simp only [guard_merge, or_merge, and_merge, or_pick, and_pick, guard_or, guard_and]); simp only [to_ob]
  have e2 : Int.tmod (da.length : Int) 8 = ((da.length % 8 : Nat) : Int) := rfl
  cases mo
  · simp only [go_sem, ↓reduceIte, reduceCtorEq, upd_ne, @back_new _ _ _ _ _ no_at, Nat.reduceAdd, Nat.reduceEqDiff, Nat.reduceMul, Nat.reduceSub, Nat.reduceLeDiff, Nat.reduceLT, Int.reduceToNat, Int.reduceLE, Int.reduceLT, Int.reduceEq, UInt8.reduceOfNat, hfr, hto, false_implies]
  · by_cases k3 : da = []
    · subst k3
      simp only [go_sem, ↓reduceIte, reduceCtorEq, upd_ne, @back_new _ _ _ _ _ no_at, Nat.reduceAdd, Nat.reduceEqDiff, Nat.reduceMul, Nat.reduceSub, Nat.reduceLeDiff, Nat.reduceLT, Int.reduceToNat, Int.reduceLE, Int.reduceLT, Int.reduceEq, UInt8.reduceOfNat, hfr, hto, true_implies]
    · have k3' : ¬ da.length = 0 := fun h => k3 (List.length_eq_zero_iff.1 h)
      by_cases k4 : da.length % 8 = 0
      · have k4' : ((da.length % 8 : Nat) : Int) = 0 := by omega
        simp only [go_sem, ↓reduceIte, reduceCtorEq, upd_ne, @back_new _ _ _ _ _ no_at, Nat.reduceAdd, Nat.reduceEqDiff, Nat.reduceMul, Nat.reduceSub, Nat.reduceLeDiff, Nat.reduceLT, Int.reduceToNat, Int.reduceLE, Int.reduceLT, Int.reduceEq, UInt8.reduceOfNat, hfr, hto, k3, k3', k4, k4', e2, true_implies]
      · have k4' : ¬ ((da.length % 8 : Nat) : Int) = 0 := by omega
        simp only [go_sem, ↓reduceIte, reduceCtorEq, upd_ne, @back_new _ _ _ _ _ no_at, Nat.reduceAdd, Nat.reduceEqDiff, Nat.reduceMul, Nat.reduceSub, Nat.reduceLeDiff, Nat.reduceLT, Int.reduceToNat, Int.reduceLE, Int.reduceLT, Int.reduceEq, UInt8.reduceOfNat, hfr, hto, k3, k3', k4, k4', e2, true_implies]
theorem ev_parse6 (s : List UInt8) (hs : s.length ≤ 140737488351232) : S.ev (n + 4) id_ip6_Parse [.str s] none = some (.tup [pLV6 s, fE (pK6 s)], none) := by
  rw [Sys.step hS.h_ip6_Parse, F_ip6_Parse_eq]
  unfold F_ip6_Parse
  have hfa := ev_fault6 hS (n + 2)
  (try simp only [guard_merge, or_merge, and_merge, or_pick, and_pick, guard_or, guard_and]); simp only [to_ob]
  unfold pLV6 pK6
  by_cases c1 : s.length < 40
  · have c1' : (s.length : Int) < 40 := by omega
    simp only [go_sem, ↓reduceIte, reduceCtorEq, upd_ne, @back_new _ _ _ _ _ no_at, Nat.reduceAdd, Nat.reduceEqDiff, Nat.reduceMul, Nat.reduceSub, Nat.reduceLeDiff, Nat.reduceLT, Int.reduceToNat, Int.reduceLE, Int.reduceLT, Int.reduceEq, UInt8.reduceOfNat, c1, c1', hfa, fE]
  · have c1' : ¬ (s.length : Int) < 40 := by omega
    have g0 := get_def (s := s) (i := 0) (by omega)
    have hb0 := bAt_le s 0
    have e4 : Int.fdiv ((s.getD 0 0).toNat : Int) (2 ^ min 4 8) = ((bAt s 0 / 16 : Nat) : Int) := by
      rw [show min 4 8 = 4 from rfl, Int.fdiv_eq_ediv_of_nonneg _ (by decide)]; rfl
    by_cases c2 : bAt s 0 / 16 ≠ 6
    · have c2' : ¬ ((bAt s 0 / 16 : Nat) : Int) = 6 := by omega
      simp only [go_sem, ↓reduceIte, reduceCtorEq, upd_ne, @back_new _ _ _ _ _ no_at, Nat.reduceAdd, Nat.reduceEqDiff, Nat.reduceMul, Nat.reduceSub, Nat.reduceLeDiff, Nat.reduceLT, Int.reduceToNat, Int.reduceLE, Int.reduceLT, Int.reduceEq, UInt8.reduceOfNat, List.getElem?_map, Int.toNat_natCast, c1, c1', c2, c2', hfa, fE, g0, byteLV, e4]
    · have c2' : ((bAt s 0 / 16 : Nat) : Int) = 6 := by omega
      have g4 := get_def (s := s) (i := 4) (by omega)
      have g5 := get_def (s := s) (i := 5) (by omega)
      have g6 := get_def (s := s) (i := 6) (by omega)
      have g7 := get_def (s := s) (i := 7) (by omega)
      have hb4 := (s.getD 4 0).toNat_lt
      have hb5 := (s.getD 5 0).toNat_lt
      have hb6 := bAt_le s 6
      have hb7 := bAt_le s 7
      have hw4 := wAt_le s 4
      have q1 : IntKind.i64.wrap ((s.getD 4 0).toNat : Int) = ((s.getD 4 0).toNat : Int) := wrap_id (by omega) (by omega)
      have q2 : IntKind.i64.wrap ((s.getD 5 0).toNat : Int) = ((s.getD 5 0).toNat : Int) := wrap_id (by omega) (by omega)
      have q3 : IntKind.i64.wrap (((s.getD 4 0).toNat : Int) * 2 ^ min 8 64) = (((s.getD 4 0).toNat * 256 : Nat) : Int) := by
        rw [show min 8 64 = 8 from rfl, wrap_id (by omega) (by omega)]; omega
      have q4 : bitsOf .or .i64 (((s.getD 4 0).toNat * 256 : Nat) : Int) ((s.getD 5 0).toNat : Int) = ((wAt s 4 : Nat) : Int) := w16_or _ _
      have q5 : IntKind.i64.wrap (40 + ((wAt s 4 : Nat) : Int)) = ((40 + wAt s 4 : Nat) : Int) := by rw [wrap_id (by omega) (by omega)]; omega
      have q6 : IntKind.i64.wrap ((s.getD 6 0).toNat : Int) = ((bAt s 6 : Nat) : Int) := wrap_id (by omega) (by unfold bAt at hb6; omega)
      have q7 : IntKind.i64.wrap ((s.getD 7 0).toNat : Int) = ((bAt s 7 : Nat) : Int) := wrap_id (by omega) (by unfold bAt at hb7; omega)
      by_cases c3 : s.length < 40 + wAt s 4
      · have c3' : (s.length : Int) < ((40 + wAt s 4 : Nat) : Int) := by omega
        simp only [go_sem, ↓reduceIte, reduceCtorEq, upd_ne, @back_new _ _ _ _ _ no_at, Nat.reduceAdd, Nat.reduceEqDiff, Nat.reduceMul, Nat.reduceSub, Nat.reduceLeDiff, Nat.reduceLT, Int.reduceToNat, Int.reduceLE, Int.reduceLT, Int.reduceEq, UInt8.reduceOfNat, List.getElem?_map, Int.toNat_natCast, c1, c1', c2, c2', c3, c3', hfa, fE, g0, g4, g5, byteLV, e4, q1, q2, q3, q4, q5]
      · have c3' : ¬ (s.length : Int) < ((40 + wAt s 4 : Nat) : Int) := by omega
        have hN := ev_New hS (n + 2) s
        have hU := ev_U32 hS n s 0 (by omega) hs
        simp only [Nat.zero_add, List.drop_zero] at hU
        have hx := num4_lt s
        have d1 : Int.fdiv ((numN (s.take 4) : Nat) : Int) (2 ^ min 20 64) = ((numN (s.take 4) / 1048576 : Nat) : Int) := by
          rw [show min 20 64 = 20 from rfl, Int.fdiv_eq_ediv_of_nonneg _ (by decide)]; rfl
        have d2 : bitsOf .and .i64 ((numN (s.take 4) / 1048576 : Nat) : Int) 255 = pcl6 s := by
          rw [show (255 : Int) = ((2 ^ 8 - 1 : Nat) : Int) from rfl, bits_mask 8 (by omega) (show ((numN (s.take 4) / 1048576 : Nat) : Int) ≤ 9223372036854775807 by omega) (by decide)]
          rfl
        have d3 : bitsOf .and .i64 ((numN (s.take 4) : Nat) : Int) 1048575 = pfl6 s := by
          rw [show (1048575 : Int) = ((2 ^ 20 - 1 : Nat) : Int) from rfl, bits_mask 20 (by omega) (show ((numN (s.take 4) : Nat) : Int) ≤ 9223372036854775807 by omega) (by decide)]
          rfl
        have k1 : ∀ sl : Slots, wCopy (upd sl 8 (.obj 1 (ip6LV (pcl6 s) (pfl6 s) (bAt s 7 : Nat) y16 y16 (.lst none []) false 0 0 false 0 []))) (.arr 8 1 [3] 3 0 16) (.str (s.drop 8)) = _ := fun sl => wc3 rfl (by rw [List.length_drop]; omega)
        have hlf : (pfr6 s).length = 16 := by unfold pfr6; simp; omega
        have hlt : (pto6 s).length = 16 := by unfold pto6; simp; omega
        have k2 : ∀ sl : Slots, wCopy (upd sl 8 (.obj 1 (ip6LV (pcl6 s) (pfl6 s) (bAt s 7 : Nat) (pfr6 s) y16 (.lst none []) false 0 0 false 0 []))) (.arr 8 1 [4] 19 0 16) (.str (s.drop 24)) = _ := fun sl => wc4 hlf rfl (by rw [List.length_drop]; omega)
        have v5 : (s.drop 8).take 16 = pfr6 s := rfl
        have v6 : (s.drop 24).take 16 = pto6 s := rfl
        have l8 : 8 ≤ s.length := by omega
        have l24 : 24 ≤ s.length := by omega
        have l40 : 40 ≤ 40 + wAt s 4 := by omega
        have l41 : 40 + wAt s 4 ≤ s.length := by omega
        have l42 : 40 + wAt s 4 - 40 = wAt s 4 := by omega
        have t8 : (s.drop 8).take (s.length - 8) = s.drop 8 := List.take_of_length_le (by simp)
        have t24 : (s.drop 24).take (s.length - 24) = s.drop 24 := List.take_of_length_le (by simp)
        have hC : S.ev (n + 3) id_ip6_Chain [.int .i64 ((bAt s 6 : Nat) : Int), .str ((s.drop 40).take (wAt s 4))] none = some (chLV (k6 s), none) := ev_chain6 hS (n + 1) _ _ (by rw [List.length_take]; omega)
        have hkl : (k6 s).1 = 0 → (k6 s).2.2.2.length ≤ 65535 := by
          intro _
          have : ∀ (k : Nat) (f : Bool) (nx : Int) (u : List UInt8), (chC k f nx u).2.2.2.length ≤ u.length := by
            intro k
            induction k with
            | zero => intro f nx u; unfold chC; split <;> (try split) <;> simp
            | succ k ih =>
              intro f nx u
              unfold chC
              split
              · split
                · simp
                · split
                  · simp
                  · have := ih false ((bAt u 0 : Nat) : Int) (u.drop (sz6 u))
                    rw [List.length_drop] at this
                    simp only
                    split <;> (try simp only) <;> omega
              · simp
          refine Nat.le_trans (this _ _ _ _) ?_
          rw [List.length_take]; omega
        unfold chLV at hC
        unfold mk6 kR6
        rcases hks : k6 s with ⟨kc, kl, kp, kr⟩
        rw [hks] at hC hkl
        try dsimp only at hC
        try dsimp only at hkl
        try dsimp only
        by_cases c4 : kc = 0
        · subst c4
          have hkl := hkl rfl
          rw [show fE 0 = .nili from rfl] at hC
          by_cases c5 : kp = 44
          · subst c5
            by_cases c6 : kr.length < 8
            · have c6' : (kr.length : Int) < 8 := by omega
              simp only [go_sem, ↓reduceIte, reduceCtorEq, upd_ne, @back_new _ _ _ _ _ no_at, Nat.reduceAdd, Nat.reduceEqDiff, Nat.reduceMul, Nat.reduceSub, Nat.reduceLeDiff, Nat.reduceLT, Int.reduceToNat, Int.reduceLE, Int.reduceLT, Int.reduceEq, UInt8.reduceOfNat, List.getElem?_map, Int.toNat_natCast, Nat.sub_zero, c1, c1', c2, c2', c3, c3', c6, c6', kF6, hfa, hN, hU, hC, fE, g0, g4, g5, g6, g7, byteLV, e4, q1, q2, q3, q4, q5, q6, q7, d1, d2, d3, k1, k2, v5, v6, hlf, hlt, l8, l24, l40, l41, l42, t8, t24, Nat.le_refl]
            · have c6' : ¬ (kr.length : Int) < 8 := by omega
              have h0 := get_def (s := kr) (i := 0) (by omega)
              have h2 := get_def (s := kr) (i := 2) (by omega)
              have h3 := get_def (s := kr) (i := 3) (by omega)
              have i0 := bAt_le kr 0
              have i2 := (kr.getD 2 0).toNat_lt
              have i3 := (kr.getD 3 0).toNat_lt
              have hw2 := wAt_le kr 2
              have r1 : IntKind.i64.wrap ((kr.getD 2 0).toNat : Int) = ((kr.getD 2 0).toNat : Int) := wrap_id (by omega) (by omega)
              have r2 : IntKind.i64.wrap ((kr.getD 3 0).toNat : Int) = ((kr.getD 3 0).toNat : Int) := wrap_id (by omega) (by omega)
              have r3 : IntKind.i64.wrap (((kr.getD 2 0).toNat : Int) * 2 ^ min 8 64) = (((kr.getD 2 0).toNat * 256 : Nat) : Int) := by
                rw [show min 8 64 = 8 from rfl, wrap_id (by omega) (by omega)]; omega
              have r4 : bitsOf .or .i64 (((kr.getD 2 0).toNat * 256 : Nat) : Int) ((kr.getD 3 0).toNat : Int) = ((wAt kr 2 : Nat) : Int) := w16_or _ _
              have r5 : IntKind.i64.wrap ((kr.getD 0 0).toNat : Int) = ((bAt kr 0 : Nat) : Int) := wrap_id (by omega) (by unfold bAt at i0; omega)
              have r6 : bitsOf .andNot .i64 ((wAt kr 2 : Nat) : Int) 7 = ((fa6 kr : Nat) : Int) := andNot7 _ hw2
              have r7 : bitsOf .and .i64 ((wAt kr 2 : Nat) : Int) 1 = ((wAt kr 2 % 2 : Nat) : Int) := by
                rw [show (1 : Int) = ((2 ^ 1 - 1 : Nat) : Int) from rfl, bits_mask 1 (by omega) (show ((wAt kr 2 : Nat) : Int) ≤ 9223372036854775807 by omega) (by decide)]
                rfl
              have r8 : (!decide (((wAt kr 2 % 2 : Nat) : Int) = 0)) = fm6 kr := by
                unfold fm6
                rw [← decide_not]
                exact decide_eq_decide.2 (by omega)
              have r8' : (decide (¬ ((wAt kr 2 % 2 : Nat) : Int) = 0)) = fm6 kr := by rw [← r8]; simp
              have hN2 := ev_New hS (n + 2) (kr.drop 4)
              have hU2 := ev_U32 hS n (kr.drop 4) 0 (by rw [List.length_drop]; omega) (by rw [List.length_drop]; omega)
              simp only [Nat.zero_add, List.drop_zero] at hU2
              have hU2 : S.ev (n + 3) id_num_Reader_U32 [.ptr 0 0 [] 0] (some (nrLV (kr.drop 4) 0)) = some (.tup [.int .i64 ((fi6 kr : Nat) : Int), .nili], some (nrLV (kr.drop 4) 4)) := hU2
              have hfi : fi6 kr < 4294967296 := num4_lt (kr.drop 4)
              have r9 : IntKind.u32.wrap ((fi6 kr : Nat) : Int) = ((fi6 kr : Nat) : Int) := wrap_u32 hfi
              have m4 : 4 ≤ kr.length := by omega
              have m8 : 8 ≤ kr.length := by omega
              have u4 : (kr.drop 4).take (kr.length - 4) = kr.drop 4 := List.take_of_length_le (by simp)
              have u8' : (kr.drop 8).take (kr.length - 8) = kr.drop 8 := List.take_of_length_le (by simp)
              have hP := ev_pieced hS (n + 2) (cl := pcl6 s) (fl := pfl6 s) (ho := (bAt s 7 : Nat)) (ex := kl.map extLV) (fg := true) (id := (fi6 kr : Nat)) (at' := (fa6 kr : Nat)) (mo := fm6 kr) (pt := (bAt kr 0 : Nat)) (da := kr.drop 8) hlf hlt
              have hfa6 : fa6 kr ≤ 65535 := by unfold fa6; omega
              have r10 : IntKind.i64.wrap (65535 - ((fa6 kr : Nat) : Int)) = ((65535 - fa6 kr : Nat) : Int) := by rw [wrap_id (by omega) (by omega)]; omega
              by_cases c7 : (fm6 kr = true → (kr.drop 8).length ≠ 0 ∧ (kr.drop 8).length % 8 = 0)
              · rw [decide_eq_true c7] at hP
                by_cases c8 : fa6 kr + (kr.drop 8).length ≤ 65535
                · have c8' : ¬ ((65535 - fa6 kr : Nat) : Int) < (((kr.drop 8).length : Nat) : Int) := by omega
                  have c9 : okF6 (fm6 kr) (fa6 kr) (kr.drop 8) := ⟨c7, c8⟩
                  simp only [go_sem, ↓reduceIte, reduceCtorEq, upd_ne, @back_new _ _ _ _ _ no_at, Nat.reduceAdd, Nat.reduceEqDiff, Nat.reduceMul, Nat.reduceSub, Nat.reduceLeDiff, Nat.reduceLT, Int.reduceToNat, Int.reduceLE, Int.reduceLT, Int.reduceEq, UInt8.reduceOfNat, List.getElem?_map, Int.toNat_natCast, Nat.sub_zero, c1, c1', c2, c2', c3, c3', c6, c6', c8', c9, kF6, hfa, hN, hU, hN2, hU2, hC, hP, fE, g0, g4, g5, g6, g7, h0, h2, h3, byteLV, e4, q1, q2, q3, q4, q5, q6, q7, d1, d2, d3, k1, k2, v5, v6, hlf, hlt, l8, l24, l40, l41, l42, t8, t24, r1, r2, r3, r4, r5, r6, r7, r8, r8', r9, r10, m4, m8, u4, u8', Nat.le_refl]
                · have c8' : ((65535 - fa6 kr : Nat) : Int) < (((kr.drop 8).length : Nat) : Int) := by omega
                  have c9 : ¬ okF6 (fm6 kr) (fa6 kr) (kr.drop 8) := fun h => c8 h.2
                  simp only [go_sem, ↓reduceIte, reduceCtorEq, upd_ne, @back_new _ _ _ _ _ no_at, Nat.reduceAdd, Nat.reduceEqDiff, Nat.reduceMul, Nat.reduceSub, Nat.reduceLeDiff, Nat.reduceLT, Int.reduceToNat, Int.reduceLE, Int.reduceLT, Int.reduceEq, UInt8.reduceOfNat, List.getElem?_map, Int.toNat_natCast, Nat.sub_zero, c1, c1', c2, c2', c3, c3', c6, c6', c8', c9, kF6, hfa, hN, hU, hN2, hU2, hC, hP, fE, g0, g4, g5, g6, g7, h0, h2, h3, byteLV, e4, q1, q2, q3, q4, q5, q6, q7, d1, d2, d3, k1, k2, v5, v6, hlf, hlt, l8, l24, l40, l41, l42, t8, t24, r1, r2, r3, r4, r5, r6, r7, r8, r8', r9, r10, m4, m8, u4, u8', Nat.le_refl]
              · rw [decide_eq_false c7] at hP
                have c9 : ¬ okF6 (fm6 kr) (fa6 kr) (kr.drop 8) := fun h => c7 h.1
                simp only [go_sem, ↓reduceIte, reduceCtorEq, upd_ne, @back_new _ _ _ _ _ no_at, Nat.reduceAdd, Nat.reduceEqDiff, Nat.reduceMul, Nat.reduceSub, Nat.reduceLeDiff, Nat.reduceLT, Int.reduceToNat, Int.reduceLE, Int.reduceLT, Int.reduceEq, UInt8.reduceOfNat, List.getElem?_map, Int.toNat_natCast, Nat.sub_zero, c1, c1', c2, c2', c3, c3', c6, c6', c9, kF6, hfa, hN, hU, hN2, hU2, hC, hP, fE, g0, g4, g5, g6, g7, h0, h2, h3, byteLV, e4, q1, q2, q3, q4, q5, q6, q7, d1, d2, d3, k1, k2, v5, v6, hlf, hlt, l8, l24, l40, l41, l42, t8, t24, r1, r2, r3, r4, r5, r6, r7, r8, r8', r9, r10, m4, m8, u4, u8', Nat.le_refl]
          · simp only [go_sem, ↓reduceIte, reduceCtorEq, upd_ne, @back_new _ _ _ _ _ no_at, Nat.reduceAdd, Nat.reduceEqDiff, Nat.reduceMul, Nat.reduceSub, Nat.reduceLeDiff, Nat.reduceLT, Int.reduceToNat, Int.reduceLE, Int.reduceLT, Int.reduceEq, UInt8.reduceOfNat, List.getElem?_map, Int.toNat_natCast, Nat.sub_zero, c1, c1', c2, c2', c3, c3', c5, hfa, hN, hU, hC, fE, g0, g4, g5, g6, g7, byteLV, e4, q1, q2, q3, q4, q5, q6, q7, d1, d2, d3, k1, k2, v5, v6, hlf, hlt, l8, l24, l40, l41, l42, t8, t24, Nat.le_refl]
        · simp only [fE, if_neg c4] at hC
          simp only [go_sem, ↓reduceIte, reduceCtorEq, upd_ne, @back_new _ _ _ _ _ no_at, Nat.reduceAdd, Nat.reduceEqDiff, Nat.reduceMul, Nat.reduceSub, Nat.reduceLeDiff, Nat.reduceLT, Int.reduceToNat, Int.reduceLE, Int.reduceLT, Int.reduceEq, UInt8.reduceOfNat, List.getElem?_map, Int.toNat_natCast, Nat.sub_zero, c1, c1', c2, c2', c3, c3', c4, hfa, hN, hU, hC, fE, g0, g4, g5, g6, g7, byteLV, e4, q1, q2, q3, q4, q5, q6, q7, d1, d2, d3, k1, k2, v5, v6, hlf, hlt, l8, l24, l40, l41, l42, t8, t24, Nat.le_refl]
end
end Go.Ev

namespace Go.Ev
set_option linter.unusedSimpArgs false
set_option linter.unusedVariables false
set_option maxRecDepth 4000
set_option maxHeartbeats 8000000
section
variable {S : Sys} (hS : Has S) (n : Nat)
variable {cl fl ho : Int} {fr to : List UInt8} {ex : List (Int × List UInt8)} {fg : Bool} {id at' : Int} {mo : Bool} {pt : Int} {da : List UInt8}
include hS
theorem ev_within6 (x m : Int) : S.ev (n + 1) id_ip6_within [.int .i64 x, .int .i64 m] none = some (.bool (decide (0 ≤ x ∧ x ≤ m)), none) := by
  rw [Sys.step hS.h_ip6_within, F_ip6_within_eq]
  unfold F_ip6_within
  (try simp only [guard_merge, or_merge, and_merge, or_pick, and_pick, guard_or, guard_and]); simp only [to_ob]
  by_cases h1 : 0 ≤ x <;> by_cases h2 : x ≤ m <;> simp only [go_sem, ↓reduceIte, reduceCtorEq, upd_ne, @back_new _ _ _ _ _ no_at, Nat.reduceAdd, Nat.reduceEqDiff, Nat.reduceMul, Nat.reduceSub, Nat.reduceLeDiff, Nat.reduceLT, Int.reduceToNat, Int.reduceLE, Int.reduceLT, Int.reduceEq, UInt8.reduceOfNat, h1, h2]
theorem ev_kinds (hfr : fr.length = 16) (hto : to.length = 16) (hl : ex.length ≤ 140737488351232) :
    S.ev (n + 2) id_ip6_kinds [ip6LV cl fl ho fr to (extsLV ex) fg id at' mo pt da] none = some (.bool (decide (kd6 ex fg pt)), none) := by
  rw [Sys.step hS.h_ip6_kinds, F_ip6_kinds_eq]
  unfold F_ip6_kinds
  have hx := ev_extends hS n
  (try simp only [guard_merge, or_merge, and_merge, or_pick, and_pick, guard_or, guard_and]); simp only [to_ob]
  simp only [go_sem, ↓reduceIte, reduceCtorEq, upd_ne, @back_new _ _ _ _ _ no_at, Nat.reduceAdd, Nat.reduceEqDiff, Nat.reduceMul, Nat.reduceSub, Nat.reduceLeDiff, Nat.reduceLT, Int.reduceToNat, Int.reduceLE, Int.reduceLT, Int.reduceEq, UInt8.reduceOfNat, hfr, hto, List.length_map]
  refine while_rule (fun k q => ∃ i : Nat, q = ([.bool false, .int .i64 (i : Int)], noSlots) ∧ i + k = ex.length ∧ kB (ex.drop i) = kB ex) ex.length ⟨0, rfl, by simp, by simp⟩ ?_
  rintro k q ⟨i, rfl, hi, hr⟩
  simp only [go_sem, ↓reduceIte, reduceCtorEq, upd_ne, @back_new _ _ _ _ _ no_at, Nat.reduceAdd, Nat.reduceEqDiff, Nat.reduceMul, Nat.reduceSub, Nat.reduceLeDiff, Nat.reduceLT, Int.reduceToNat, Int.reduceLE, Int.reduceLT, Int.reduceEq, UInt8.reduceOfNat]
  refine nxt_ite (fun h => ?_) (fun h => ?_)
  · have hlt : i < ex.length := by omega
    obtain ⟨e, he⟩ : ∃ e, ex[i]? = some e := ⟨ex[i], by simp [hlt]⟩
    have hd := drop_ex he
    have e1 : IntKind.i64.wrap ((i : Int) + 1) = ((i + 1 : Nat) : Int) := by rw [wrap_id (by omega) (by omega)]; omega
    by_cases h1 : isE e.1
    · have h1' : decide (isE e.1) = true := decide_eq_true h1
      simp only [go_sem, ↓reduceIte, reduceCtorEq, upd_ne, @back_new _ _ _ _ _ no_at, Nat.reduceAdd, Nat.reduceEqDiff, Nat.reduceMul, Nat.reduceSub, Nat.reduceLeDiff, Nat.reduceLT, Int.reduceToNat, Int.reduceLE, Int.reduceLT, Int.reduceEq, UInt8.reduceOfNat, List.getElem?_map, Int.toNat_natCast, he, hx, h1', e1]
      exact ⟨k - 1, by omega, i + 1, rfl, by omega, by rw [← hr, hd]; simp only [kB, List.all_cons, h1', Bool.true_and]⟩
    · have h1' : decide (isE e.1) = false := decide_eq_false h1
      have hk : kB ex = false := by rw [← hr, hd]; simp only [kB, List.all_cons, h1', Bool.false_and]
      have hk' : ¬ kd6 ex fg pt := fun q => by have := q.1; rw [hk] at this; simp at this
      simp only [go_sem, ↓reduceIte, reduceCtorEq, upd_ne, @back_new _ _ _ _ _ no_at, Nat.reduceAdd, Nat.reduceEqDiff, Nat.reduceMul, Nat.reduceSub, Nat.reduceLeDiff, Nat.reduceLT, Int.reduceToNat, Int.reduceLE, Int.reduceLT, Int.reduceEq, UInt8.reduceOfNat, List.getElem?_map, Int.toNat_natCast, he, hx, h1', e1, Nxt, exIf, decide_eq_false hk']
  · rw [List.drop_eq_nil_of_le (by omega)] at hr
    have hk : kB ex = true := by rw [← hr]; rfl
    cases fg
    · by_cases h1 : isE pt
      · have h1' : decide (isE pt) = true := decide_eq_true h1
        have hk' : ¬ kd6 ex false pt := fun q => (q.2 rfl).1 h1
        simp only [go_sem, ↓reduceIte, reduceCtorEq, upd_ne, @back_new _ _ _ _ _ no_at, Nat.reduceAdd, Nat.reduceEqDiff, Nat.reduceMul, Nat.reduceSub, Nat.reduceLeDiff, Nat.reduceLT, Int.reduceToNat, Int.reduceLE, Int.reduceLT, Int.reduceEq, UInt8.reduceOfNat, hfr, hto, hx, h1', Nxt, exIf, decide_eq_false hk']
      · have h1' : decide (isE pt) = false := decide_eq_false h1
        by_cases h2 : pt = 44
        · have hk' : ¬ kd6 ex false pt := fun q => (q.2 rfl).2 h2
          simp only [go_sem, ↓reduceIte, reduceCtorEq, upd_ne, @back_new _ _ _ _ _ no_at, Nat.reduceAdd, Nat.reduceEqDiff, Nat.reduceMul, Nat.reduceSub, Nat.reduceLeDiff, Nat.reduceLT, Int.reduceToNat, Int.reduceLE, Int.reduceLT, Int.reduceEq, UInt8.reduceOfNat, hfr, hto, hx, h1', Nxt, exIf, decide_eq_false hk']
          simp [h2]
        · have hk' : kd6 ex false pt := ⟨hk, fun _ => ⟨h1, h2⟩⟩
          simp only [go_sem, ↓reduceIte, reduceCtorEq, upd_ne, @back_new _ _ _ _ _ no_at, Nat.reduceAdd, Nat.reduceEqDiff, Nat.reduceMul, Nat.reduceSub, Nat.reduceLeDiff, Nat.reduceLT, Int.reduceToNat, Int.reduceLE, Int.reduceLT, Int.reduceEq, UInt8.reduceOfNat, hfr, hto, hx, h1', Nxt, exIf, decide_eq_true hk']
          simp [h2]
    · have hk' : kd6 ex true pt := ⟨hk, fun q => by simp at q⟩
      simp only [go_sem, ↓reduceIte, reduceCtorEq, upd_ne, @back_new _ _ _ _ _ no_at, Nat.reduceAdd, Nat.reduceEqDiff, Nat.reduceMul, Nat.reduceSub, Nat.reduceLeDiff, Nat.reduceLT, Int.reduceToNat, Int.reduceLE, Int.reduceLT, Int.reduceEq, UInt8.reduceOfNat, hfr, hto, hx, Nxt, exIf, decide_eq_true hk']
theorem ev_formed (hfr : fr.length = 16) (hto : to.length = 16) (hl : ex.length ≤ 140737488351232) (hda : da.length ≤ 140737488351232) :
    S.ev (n + 2) id_ip6_formed [ip6LV cl fl ho fr to (extsLV ex) fg id at' mo pt da] none = some (.bool (decide (fm6' ex fg id at' mo da)), none) := by
  rw [Sys.step hS.h_ip6_formed, F_ip6_formed_eq]
  unfold F_ip6_formed
  have hp := ev_pieced hS n (cl := cl) (fl := fl) (ho := ho) (ex := ex.map extLV) (fg := true) (id := id) (at' := at') (mo := mo) (pt := pt) (da := da) hfr hto
  (try simp only [guard_merge, or_merge, and_merge, or_pick, and_pick, guard_or, guard_and]); simp only [to_ob]
  simp only [go_sem, ↓reduceIte, reduceCtorEq, upd_ne, @back_new _ _ _ _ _ no_at, Nat.reduceAdd, Nat.reduceEqDiff, Nat.reduceMul, Nat.reduceSub, Nat.reduceLeDiff, Nat.reduceLT, Int.reduceToNat, Int.reduceLE, Int.reduceLT, Int.reduceEq, UInt8.reduceOfNat, hfr, hto, List.length_map]
  refine while_rule (fun k q => ∃ i : Nat, q = ([.bool false, .int .i64 (i : Int)], noSlots) ∧ i + k = ex.length ∧ fB (decide (i = 0)) (ex.drop i) = fB true ex) ex.length ⟨0, rfl, by simp, by simp⟩ ?_
  rintro k q ⟨i, rfl, hi, hr⟩
  simp only [go_sem, ↓reduceIte, reduceCtorEq, upd_ne, @back_new _ _ _ _ _ no_at, Nat.reduceAdd, Nat.reduceEqDiff, Nat.reduceMul, Nat.reduceSub, Nat.reduceLeDiff, Nat.reduceLT, Int.reduceToNat, Int.reduceLE, Int.reduceLT, Int.reduceEq, UInt8.reduceOfNat]
  refine nxt_ite (fun h => ?_) (fun h => ?_)
  · have hlt : i < ex.length := by omega
    obtain ⟨e, he⟩ : ∃ e, ex[i]? = some e := ⟨ex[i], by simp [hlt]⟩
    have hd := drop_ex he
    have e1 : IntKind.i64.wrap ((i : Int) + 1) = ((i + 1 : Nat) : Int) := by rw [wrap_id (by omega) (by omega)]; omega
    have e2 : Int.tmod (e.2.length : Int) 8 = ((e.2.length % 8 : Nat) : Int) := rfl
    have bad : ¬ fE1 (decide (i = 0)) e → fB true ex = false := fun q => by rw [← hr, hd]; simp only [fB, decide_eq_false q, Bool.false_and]
    have bad' : ¬ fE1 (decide (i = 0)) e → decide (fm6' ex fg id at' mo da) = false := fun q => decide_eq_false fun p => by have := p.1; rw [bad q] at this; simp at this
    by_cases h1 : e.2.length % 8 = 6
    · have h1' : ((e.2.length % 8 : Nat) : Int) = 6 := by omega
      by_cases h2 : e.2.length ≤ 2046
      · have h2' : ¬ 2046 < (e.2.length : Int) := by omega
        by_cases h3 : e.1 = 0
        · by_cases h4 : i = 0
          · have h4' : ¬ 0 < (i : Int) := by omega
            simp only [go_sem, ↓reduceIte, reduceCtorEq, upd_ne, @back_new _ _ _ _ _ no_at, Nat.reduceAdd, Nat.reduceEqDiff, Nat.reduceMul, Nat.reduceSub, Nat.reduceLeDiff, Nat.reduceLT, Int.reduceToNat, Int.reduceLE, Int.reduceLT, Int.reduceEq, UInt8.reduceOfNat, List.getElem?_map, Int.toNat_natCast, he, e1, e2, h1', h2', h3, h4']
            refine ⟨k - 1, by omega, i + 1, rfl, by omega, ?_⟩
            have hg : fE1 (decide (i = 0)) e := ⟨h1, h2, fun _ => decide_eq_true h4⟩
            rw [← hr, hd]; simp only [fB, decide_eq_true hg, Bool.true_and]
            rw [show decide (i + 1 = 0) = false from decide_eq_false (by omega)]
          · have h4' : 0 < (i : Int) := by omega
            have hg : ¬ fE1 (decide (i = 0)) e := fun q => h4 (of_decide_eq_true (q.2.2 h3))
            simp only [go_sem, ↓reduceIte, reduceCtorEq, upd_ne, @back_new _ _ _ _ _ no_at, Nat.reduceAdd, Nat.reduceEqDiff, Nat.reduceMul, Nat.reduceSub, Nat.reduceLeDiff, Nat.reduceLT, Int.reduceToNat, Int.reduceLE, Int.reduceLT, Int.reduceEq, UInt8.reduceOfNat, List.getElem?_map, Int.toNat_natCast, he, e1, e2, h1', h2', h3, h4', Nxt, exIf, bad' hg]
        · simp only [go_sem, ↓reduceIte, reduceCtorEq, upd_ne, @back_new _ _ _ _ _ no_at, Nat.reduceAdd, Nat.reduceEqDiff, Nat.reduceMul, Nat.reduceSub, Nat.reduceLeDiff, Nat.reduceLT, Int.reduceToNat, Int.reduceLE, Int.reduceLT, Int.reduceEq, UInt8.reduceOfNat, List.getElem?_map, Int.toNat_natCast, he, e1, e2, h1', h2', h3]
          refine ⟨k - 1, by omega, i + 1, rfl, by omega, ?_⟩
          have hg : fE1 (decide (i = 0)) e := ⟨h1, h2, fun q => absurd q h3⟩
          rw [← hr, hd]; simp only [fB, decide_eq_true hg, Bool.true_and]
          rw [show decide (i + 1 = 0) = false from decide_eq_false (by omega)]
      · have h2' : 2046 < (e.2.length : Int) := by omega
        have hg : ¬ fE1 (decide (i = 0)) e := fun q => h2 q.2.1
        simp only [go_sem, ↓reduceIte, reduceCtorEq, upd_ne, @back_new _ _ _ _ _ no_at, Nat.reduceAdd, Nat.reduceEqDiff, Nat.reduceMul, Nat.reduceSub, Nat.reduceLeDiff, Nat.reduceLT, Int.reduceToNat, Int.reduceLE, Int.reduceLT, Int.reduceEq, UInt8.reduceOfNat, List.getElem?_map, Int.toNat_natCast, he, e1, e2, h1', h2', Nxt, exIf, bad' hg]
    · have h1' : ¬ ((e.2.length % 8 : Nat) : Int) = 6 := by omega
      have hg : ¬ fE1 (decide (i = 0)) e := fun q => h1 q.1
      simp only [go_sem, ↓reduceIte, reduceCtorEq, upd_ne, @back_new _ _ _ _ _ no_at, Nat.reduceAdd, Nat.reduceEqDiff, Nat.reduceMul, Nat.reduceSub, Nat.reduceLeDiff, Nat.reduceLT, Int.reduceToNat, Int.reduceLE, Int.reduceLT, Int.reduceEq, UInt8.reduceOfNat, List.getElem?_map, Int.toNat_natCast, he, e1, e2, h1', Nxt, exIf, bad' hg]
  · rw [List.drop_eq_nil_of_le (by omega)] at hr
    have hk : fB true ex = true := by rw [← hr]; cases decide (i = 0) <;> rfl
    cases fg
    · have hq : decide (fm6' ex false id at' mo da) = (decide (id = 0) && (decide (at' = 0) && !mo)) := by
        rw [Bool.eq_iff_iff]
        simp only [fm6', hk, decide_eq_true_eq, Bool.and_eq_true, Bool.not_eq_true', true_and, Bool.false_eq_true, if_false]
      rw [hq]
      by_cases h1 : id = 0 <;> by_cases h2 : at' = 0 <;> cases mo <;> simp only [go_sem, ↓reduceIte, reduceCtorEq, upd_ne, @back_new _ _ _ _ _ no_at, Nat.reduceAdd, Nat.reduceEqDiff, Nat.reduceMul, Nat.reduceSub, Nat.reduceLeDiff, Nat.reduceLT, Int.reduceToNat, Int.reduceLE, Int.reduceLT, Int.reduceEq, UInt8.reduceOfNat, hfr, hto, Nxt, exIf, h1, h2]
    · have hq : decide (fm6' ex true id at' mo da) = decide (pc6 mo da) := by
        apply decide_eq_decide.2
        simp only [fm6', hk, true_and, if_true]
      simp only [go_sem, ↓reduceIte, reduceCtorEq, upd_ne, @back_new _ _ _ _ _ no_at, Nat.reduceAdd, Nat.reduceEqDiff, Nat.reduceMul, Nat.reduceSub, Nat.reduceLeDiff, Nat.reduceLT, Int.reduceToNat, Int.reduceLE, Int.reduceLT, Int.reduceEq, UInt8.reduceOfNat, hfr, hto, hp, Nxt, exIf, hq]
theorem ev_size (hfr : fr.length = 16) (hto : to.length = 16) (hl : ex.length ≤ 20) (hb : ∀ e ∈ ex, e.2.length ≤ 140737488351232) (hda : da.length ≤ 140737488351232) :
    S.ev (n + 1) id_ip6_size [ip6LV cl fl ho fr to (extsLV ex) fg id at' mo pt da] none = some (.int .i64 (bh6 ex fg da : Nat), none) := by
  rw [Sys.step hS.h_ip6_size, F_ip6_size_eq]
  unfold F_ip6_size F_ip6_size_k1
  have hsz := szE_le ex hb
  (try simp only [guard_merge, or_merge, and_merge, or_pick, and_pick, guard_or, guard_and]); simp only [to_ob]
  have go : ∀ (b0 : Nat) (i : Nat) (e : Int × List UInt8), b0 ≤ 140737488351240 → ex[i]? = some e → IntKind.i64.wrap (((b0 + szE (ex.take i) : Nat) : Int) + IntKind.i64.wrap ((e.2.length : Int) + 2)) = ((b0 + szE (ex.take (i + 1)) : Nat) : Int) := by
    intro b0 i e hb0 he
    have htk : ex.take (i + 1) = ex.take i ++ [e] := by rw [List.take_add_one, he]; rfl
    have h1 := hb e (List.mem_of_getElem? he)
    have h2 := szE_le (ex.take i) fun x hx => hb x (List.mem_of_mem_take hx)
    rw [List.length_take] at h2
    rw [wrap_id (n := (e.2.length : Int) + 2) (by omega) (by omega), wrap_id (by omega) (by omega), htk, szE_app]
    simp only [szE]
    omega
  have e0 : IntKind.i64.wrap ((da.length : Int) + 8) = ((da.length + 8 : Nat) : Int) := by rw [wrap_id (by omega) (by omega)]; omega
  cases fg
  · simp only [go_sem, ↓reduceIte, reduceCtorEq, upd_ne, @back_new _ _ _ _ _ no_at, Nat.reduceAdd, Nat.reduceEqDiff, Nat.reduceMul, Nat.reduceSub, Nat.reduceLeDiff, Nat.reduceLT, Int.reduceToNat, Int.reduceLE, Int.reduceLT, Int.reduceEq, UInt8.reduceOfNat, hfr, hto, List.length_map]
    refine while_rule (fun k q => ∃ i : Nat, q = ([.int .i64 ((da.length + szE (ex.take i) : Nat) : Int), .int .i64 (i : Int)], noSlots) ∧ i + k = ex.length) ex.length ⟨0, by simp [szE], by simp⟩ ?_
    rintro k q ⟨i, rfl, hi⟩
    simp only [go_sem, ↓reduceIte, reduceCtorEq, upd_ne, @back_new _ _ _ _ _ no_at, Nat.reduceAdd, Nat.reduceEqDiff, Nat.reduceMul, Nat.reduceSub, Nat.reduceLeDiff, Nat.reduceLT, Int.reduceToNat, Int.reduceLE, Int.reduceLT, Int.reduceEq, UInt8.reduceOfNat]
    refine nxt_ite (fun h => ?_) (fun h => ?_)
    · have hlt : i < ex.length := by omega
      obtain ⟨e, he⟩ : ∃ e, ex[i]? = some e := ⟨ex[i], by simp [hlt]⟩
      have e1 : IntKind.i64.wrap ((i : Int) + 1) = ((i + 1 : Nat) : Int) := by rw [wrap_id (by omega) (by omega)]; omega
      have e2 := go da.length i e (by omega) he
      simp only [go_sem, ↓reduceIte, reduceCtorEq, upd_ne, @back_new _ _ _ _ _ no_at, Nat.reduceAdd, Nat.reduceEqDiff, Nat.reduceMul, Nat.reduceSub, Nat.reduceLeDiff, Nat.reduceLT, Int.reduceToNat, Int.reduceLE, Int.reduceLT, Int.reduceEq, UInt8.reduceOfNat, List.getElem?_map, Int.toNat_natCast, he, e1, e2]
      exact ⟨k - 1, by omega, i + 1, rfl, by omega⟩
    · rw [List.take_of_length_le (by omega)]
      have : bh6 ex false da = da.length + szE ex := by unfold bh6; rw [if_neg Bool.false_ne_true]; omega
      simp only [go_sem, ↓reduceIte, reduceCtorEq, upd_ne, @back_new _ _ _ _ _ no_at, Nat.reduceAdd, Nat.reduceEqDiff, Nat.reduceMul, Nat.reduceSub, Nat.reduceLeDiff, Nat.reduceLT, Int.reduceToNat, Int.reduceLE, Int.reduceLT, Int.reduceEq, UInt8.reduceOfNat, Nxt, exIf, this]
  · simp only [go_sem, ↓reduceIte, reduceCtorEq, upd_ne, @back_new _ _ _ _ _ no_at, Nat.reduceAdd, Nat.reduceEqDiff, Nat.reduceMul, Nat.reduceSub, Nat.reduceLeDiff, Nat.reduceLT, Int.reduceToNat, Int.reduceLE, Int.reduceLT, Int.reduceEq, UInt8.reduceOfNat, hfr, hto, e0, List.length_map]
    refine while_rule (fun k q => ∃ i : Nat, q = ([.int .i64 ((da.length + 8 + szE (ex.take i) : Nat) : Int), .int .i64 (i : Int)], noSlots) ∧ i + k = ex.length) ex.length ⟨0, by simp [szE], by simp⟩ ?_
    rintro k q ⟨i, rfl, hi⟩
    simp only [go_sem, ↓reduceIte, reduceCtorEq, upd_ne, @back_new _ _ _ _ _ no_at, Nat.reduceAdd, Nat.reduceEqDiff, Nat.reduceMul, Nat.reduceSub, Nat.reduceLeDiff, Nat.reduceLT, Int.reduceToNat, Int.reduceLE, Int.reduceLT, Int.reduceEq, UInt8.reduceOfNat]
    refine nxt_ite (fun h => ?_) (fun h => ?_)
    · have hlt : i < ex.length := by omega
      obtain ⟨e, he⟩ : ∃ e, ex[i]? = some e := ⟨ex[i], by simp [hlt]⟩
      have e1 : IntKind.i64.wrap ((i : Int) + 1) = ((i + 1 : Nat) : Int) := by rw [wrap_id (by omega) (by omega)]; omega
      have e2 := go (da.length + 8) i e (by omega) he
      simp only [go_sem, ↓reduceIte, reduceCtorEq, upd_ne, @back_new _ _ _ _ _ no_at, Nat.reduceAdd, Nat.reduceEqDiff, Nat.reduceMul, Nat.reduceSub, Nat.reduceLeDiff, Nat.reduceLT, Int.reduceToNat, Int.reduceLE, Int.reduceLT, Int.reduceEq, UInt8.reduceOfNat, List.getElem?_map, Int.toNat_natCast, he, e1, e2]
      exact ⟨k - 1, by omega, i + 1, rfl, by omega⟩
    · rw [List.take_of_length_le (by omega)]
      have : bh6 ex true da = da.length + 8 + szE ex := by unfold bh6; rw [if_pos rfl]; omega
      simp only [go_sem, ↓reduceIte, reduceCtorEq, upd_ne, @back_new _ _ _ _ _ no_at, Nat.reduceAdd, Nat.reduceEqDiff, Nat.reduceMul, Nat.reduceSub, Nat.reduceLeDiff, Nat.reduceLT, Int.reduceToNat, Int.reduceLE, Int.reduceLT, Int.reduceEq, UInt8.reduceOfNat, Nxt, exIf, this]
theorem ev_why6 (hfr : fr.length = 16) (hto : to.length = 16) (hl : ex.length ≤ 140737488351232) (hb : ∀ e ∈ ex, e.2.length ≤ 140737488351232) (hda : da.length ≤ 140737488351232) :
    S.ev (n + 3) id_ip6_why [ip6LV cl fl ho fr to (extsLV ex) fg id at' mo pt da] none = some (.int .i64 (why6 cl fl ho ex fg id at' mo pt da), none) := by
  rw [Sys.step hS.h_ip6_why, F_ip6_why_eq]
  unfold F_ip6_why
  have hw := ev_within6 hS (n + 1)
  have hk := ev_kinds hS n (cl := cl) (fl := fl) (ho := ho) (fg := fg) (id := id) (at' := at') (mo := mo) (pt := pt) (da := da) hfr hto hl
  have hf := ev_formed hS n (cl := cl) (fl := fl) (ho := ho) (fg := fg) (id := id) (at' := at') (mo := mo) (pt := pt) (da := da) hfr hto hl hda
  (try simp only [guard_merge, or_merge, and_merge, or_pick, and_pick, guard_or, guard_and]); simp only [to_ob]
  unfold why6
  by_cases c1 : rg6 cl fl ho at' pt
  · rw [if_pos c1]
    obtain ⟨⟨a1, a2⟩, ⟨a3, a4⟩, ⟨a5, a6⟩, ⟨a7, a8⟩, ⟨a9, a10⟩, a11⟩ := c1
    have w0 : IntKind.i64.wrap (65535 - at') = 65535 - at' := wrap_id (by omega) (by omega)
    by_cases c2 : kd6 ex fg pt
    · rw [if_pos c2]
      rw [decide_eq_true c2] at hk
      by_cases c3 : fm6' ex fg id at' mo da
      · rw [if_pos c3]
        rw [decide_eq_true c3] at hf
        by_cases c4 : ex.length ≤ 8
        · have c4' : ¬ 8 < (ex.length : Int) := by omega
          by_cases c5 : at' + da.length ≤ 65535
          · have c5' : ¬ 65535 - at' < (da.length : Int) := by omega
            have hb2 : ∀ e ∈ ex, e.2.length ≤ 140737488351232 := by
              have : ∀ (l : List (Int × List UInt8)) (f : Bool), fB f l = true → ∀ e ∈ l, e.2.length ≤ 2046 := by
                intro l
                induction l with
                | nil => intro f h e he; simp at he
                | cons x l ih =>
                  intro f h e he
                  simp only [fB, Bool.and_eq_true, decide_eq_true_eq] at h
                  rcases List.mem_cons.1 he with rfl | he
                  · exact h.1.2.1
                  · exact ih _ h.2 e he
              intro e he
              have := this ex true c3.1 e he
              omega
            have hz := ev_size hS (n + 1) (cl := cl) (fl := fl) (ho := ho) (fr := fr) (to := to) (fg := fg) (id := id) (at' := at') (mo := mo) (pt := pt) (da := da) hfr hto (by omega) hb2 hda
            by_cases c6 : bh6 ex fg da ≤ 65535
            · have c6' : ¬ 65535 < ((bh6 ex fg da : Nat) : Int) := by omega
              simp only [go_sem, ↓reduceIte, reduceCtorEq, upd_ne, @back_new _ _ _ _ _ no_at, Nat.reduceAdd, Nat.reduceEqDiff, Nat.reduceMul, Nat.reduceSub, Nat.reduceLeDiff, Nat.reduceLT, Int.reduceToNat, Int.reduceLE, Int.reduceLT, Int.reduceEq, UInt8.reduceOfNat, hfr, hto, hw, a1, a2, a3, a4, a5, a6, a7, a8, a9, a10, a11, hk, hf, c4, c4', c5, c5', c6, c6', w0, hz, List.length_map]
            · have c6' : 65535 < ((bh6 ex fg da : Nat) : Int) := by omega
              simp only [go_sem, ↓reduceIte, reduceCtorEq, upd_ne, @back_new _ _ _ _ _ no_at, Nat.reduceAdd, Nat.reduceEqDiff, Nat.reduceMul, Nat.reduceSub, Nat.reduceLeDiff, Nat.reduceLT, Int.reduceToNat, Int.reduceLE, Int.reduceLT, Int.reduceEq, UInt8.reduceOfNat, hfr, hto, hw, a1, a2, a3, a4, a5, a6, a7, a8, a9, a10, a11, hk, hf, c4, c4', c5, c5', c6, c6', w0, hz, List.length_map]
          · have c5' : 65535 - at' < (da.length : Int) := by omega
            simp only [go_sem, ↓reduceIte, reduceCtorEq, upd_ne, @back_new _ _ _ _ _ no_at, Nat.reduceAdd, Nat.reduceEqDiff, Nat.reduceMul, Nat.reduceSub, Nat.reduceLeDiff, Nat.reduceLT, Int.reduceToNat, Int.reduceLE, Int.reduceLT, Int.reduceEq, UInt8.reduceOfNat, hfr, hto, hw, a1, a2, a3, a4, a5, a6, a7, a8, a9, a10, a11, hk, hf, c4, c4', c5, c5', w0, List.length_map]
        · have c4' : 8 < (ex.length : Int) := by omega
          simp only [go_sem, ↓reduceIte, reduceCtorEq, upd_ne, @back_new _ _ _ _ _ no_at, Nat.reduceAdd, Nat.reduceEqDiff, Nat.reduceMul, Nat.reduceSub, Nat.reduceLeDiff, Nat.reduceLT, Int.reduceToNat, Int.reduceLE, Int.reduceLT, Int.reduceEq, UInt8.reduceOfNat, hfr, hto, hw, a1, a2, a3, a4, a5, a6, a7, a8, a9, a10, a11, hk, hf, c4, c4', List.length_map]
      · rw [if_neg c3]
        rw [decide_eq_false c3] at hf
        simp only [go_sem, ↓reduceIte, reduceCtorEq, upd_ne, @back_new _ _ _ _ _ no_at, Nat.reduceAdd, Nat.reduceEqDiff, Nat.reduceMul, Nat.reduceSub, Nat.reduceLeDiff, Nat.reduceLT, Int.reduceToNat, Int.reduceLE, Int.reduceLT, Int.reduceEq, UInt8.reduceOfNat, hfr, hto, hw, a1, a2, a3, a4, a5, a6, a7, a8, a9, a10, a11, hk, hf]
    · rw [if_neg c2]
      rw [decide_eq_false c2] at hk
      simp only [go_sem, ↓reduceIte, reduceCtorEq, upd_ne, @back_new _ _ _ _ _ no_at, Nat.reduceAdd, Nat.reduceEqDiff, Nat.reduceMul, Nat.reduceSub, Nat.reduceLeDiff, Nat.reduceLT, Int.reduceToNat, Int.reduceLE, Int.reduceLT, Int.reduceEq, UInt8.reduceOfNat, hfr, hto, hw, a1, a2, a3, a4, a5, a6, a7, a8, a9, a10, a11, hk]
  · rw [if_neg c1]
    by_cases b1 : 0 ≤ cl ∧ cl ≤ 255
    · by_cases b2 : 0 ≤ fl ∧ fl ≤ 1048575
      · by_cases b3 : 0 ≤ ho ∧ ho ≤ 255
        · by_cases b4 : 0 ≤ pt ∧ pt ≤ 255
          · by_cases b5 : 0 ≤ at' ∧ at' ≤ 65528
            · have b6 : ¬ Int.tmod at' 8 = 0 := fun h => c1 ⟨b1, b2, b3, b4, b5, h⟩
              simp only [go_sem, ↓reduceIte, reduceCtorEq, upd_ne, @back_new _ _ _ _ _ no_at, Nat.reduceAdd, Nat.reduceEqDiff, Nat.reduceMul, Nat.reduceSub, Nat.reduceLeDiff, Nat.reduceLT, Int.reduceToNat, Int.reduceLE, Int.reduceLT, Int.reduceEq, UInt8.reduceOfNat, hw, hfr, hto, decide_eq_true b1, decide_eq_true b2, decide_eq_true b3, decide_eq_true b4, decide_eq_true b5, b6]
            · simp only [go_sem, ↓reduceIte, reduceCtorEq, upd_ne, @back_new _ _ _ _ _ no_at, Nat.reduceAdd, Nat.reduceEqDiff, Nat.reduceMul, Nat.reduceSub, Nat.reduceLeDiff, Nat.reduceLT, Int.reduceToNat, Int.reduceLE, Int.reduceLT, Int.reduceEq, UInt8.reduceOfNat, hw, hfr, hto, decide_eq_true b1, decide_eq_true b2, decide_eq_true b3, decide_eq_true b4, decide_eq_false b5]
          · simp only [go_sem, ↓reduceIte, reduceCtorEq, upd_ne, @back_new _ _ _ _ _ no_at, Nat.reduceAdd, Nat.reduceEqDiff, Nat.reduceMul, Nat.reduceSub, Nat.reduceLeDiff, Nat.reduceLT, Int.reduceToNat, Int.reduceLE, Int.reduceLT, Int.reduceEq, UInt8.reduceOfNat, hw, hfr, hto, decide_eq_true b1, decide_eq_true b2, decide_eq_true b3, decide_eq_false b4]
        · simp only [go_sem, ↓reduceIte, reduceCtorEq, upd_ne, @back_new _ _ _ _ _ no_at, Nat.reduceAdd, Nat.reduceEqDiff, Nat.reduceMul, Nat.reduceSub, Nat.reduceLeDiff, Nat.reduceLT, Int.reduceToNat, Int.reduceLE, Int.reduceLT, Int.reduceEq, UInt8.reduceOfNat, hw, hfr, hto, decide_eq_true b1, decide_eq_true b2, decide_eq_false b3]
      · simp only [go_sem, ↓reduceIte, reduceCtorEq, upd_ne, @back_new _ _ _ _ _ no_at, Nat.reduceAdd, Nat.reduceEqDiff, Nat.reduceMul, Nat.reduceSub, Nat.reduceLeDiff, Nat.reduceLT, Int.reduceToNat, Int.reduceLE, Int.reduceLT, Int.reduceEq, UInt8.reduceOfNat, hw, hfr, hto, decide_eq_true b1, decide_eq_false b2]
    · simp only [go_sem, ↓reduceIte, reduceCtorEq, upd_ne, @back_new _ _ _ _ _ no_at, Nat.reduceAdd, Nat.reduceEqDiff, Nat.reduceMul, Nat.reduceSub, Nat.reduceLeDiff, Nat.reduceLT, Int.reduceToNat, Int.reduceLE, Int.reduceLT, Int.reduceEq, UInt8.reduceOfNat, hw, hfr, hto, decide_eq_false b1]
end
end Go.Ev

namespace Go.Ev
set_option linter.unusedSimpArgs false
set_option linter.unusedVariables false
set_option maxRecDepth 4000
set_option maxHeartbeats 8000000
section
variable {S : Sys} (hS : Has S) (n : Nat)
include hS
theorem ev_big6 (x : Int) (m : Nat) (hm : m = 1 ∨ m = 2 ∨ m = 4) (hx : 0 ≤ x ∧ x < ((256 ^ m : Nat) : Int)) (h64 : I64 x) : S.ev (n + 2) id_ip6_big [.int .i64 x, .int .i64 (m : Int)] none = some (.str (beB m x.toNat), none) := by
  rw [Sys.step hS.h_ip6_big, F_ip6_big_eq]
  unfold F_ip6_big
  have h1 := ev_Big hS n x m hm h64
  unfold bigR at h1
  rw [if_pos hx] at h1
  (try simp only [guard_merge, or_merge, and_merge, or_pick, and_pick, guard_or, guard_and]); simp only [to_ob]
  simp only [go_sem, ↓reduceIte, reduceCtorEq, upd_ne, @back_new _ _ _ _ _ no_at, Nat.reduceAdd, Nat.reduceEqDiff, Nat.reduceMul, Nat.reduceSub, Nat.reduceLeDiff, Nat.reduceLT, Int.reduceToNat, Int.reduceLE, Int.reduceLT, Int.reduceEq, UInt8.reduceOfNat, h1]
theorem ev_b61 {x : Int} (h : 0 ≤ x) (h1 : x < 256) : S.ev (n + 2) id_ip6_big [.int .i64 x, .int .i64 1] none = some (.str (beB 1 x.toNat), none) := ev_big6 hS n x 1 (by omega) (lt1 h h1) ⟨by omega, by omega⟩
theorem ev_b62 {x : Int} (h : 0 ≤ x) (h1 : x < 65536) : S.ev (n + 2) id_ip6_big [.int .i64 x, .int .i64 2] none = some (.str (beB 2 x.toNat), none) := ev_big6 hS n x 2 (by omega) (lt2 h h1) ⟨by omega, by omega⟩
theorem ev_b64 {x : Int} (h : 0 ≤ x) (h1 : x < 4294967296) : S.ev (n + 2) id_ip6_big [.int .i64 x, .int .i64 4] none = some (.str (beB 4 x.toNat), none) := ev_big6 hS n x 4 (by omega) (lt4 h h1) ⟨by omega, by omega⟩
theorem ev_bytes6_tt {cl fl ho : Int} {fr to : List UInt8} {ex : List (Int × List UInt8)} {id at' : Int} {pt : Int} {da : List UInt8} (hf : FitIp6 cl fl ho fr to ex id at' pt da) (c : why6 cl fl ho ex true id at' true pt da = 0) :
    S.ev (n + 4) id_ip6_Bytes [ip6LV cl fl ho fr to (extsLV ex) true id at' true pt da] none = some (.tup [.str (by6 cl fl ho fr to ex true id at' true pt da), .nili], none) := by
  rw [Sys.step hS.h_ip6_Bytes, F_ip6_Bytes_eq]
  unfold F_ip6_Bytes F_ip6_Bytes_k2 F_ip6_Bytes_k1
  have hfr := hf.hfr
  have hto := hf.hto
  have hw := ev_why6 hS n (cl := cl) (fl := fl) (ho := ho) (fr := fr) (to := to) (ex := ex) (fg := true) (id := id) (at' := at') (mo := true) (pt := pt) (da := da) hfr hto hf.hex (fun e he => (hf.hexs e he).2) hf.hda
  rw [c] at hw
  have ok := why6_zero.1 c
  obtain ⟨⟨⟨a1, a2⟩, ⟨a3, a4⟩, ⟨a5, a6⟩, ⟨a7, a8⟩, ⟨a9, a10⟩, a11⟩, ok2, ok3, ok4, ok5, ok6⟩ := ok
  have hkb := ok2.1
  have hfb := fB_le ex true ok3.1
  have hid := hf.hid
  (try simp only [guard_merge, or_merge, and_merge, or_pick, and_pick, guard_or, guard_and]); simp only [to_ob]
  unfold by6 bd6
  simp only [Bool.false_eq_true, if_true, if_false]
  unfold bh6 at ok6
  simp only [Bool.false_eq_true, if_true, if_false] at ok6
  have b1 := ev_b61 hS (n + 1) (x := pt) (by omega) (by omega)
  have b2 := ev_b62 hS (n + 1) (x := at' + 1) (by omega) (by omega)
  have b3 := ev_b64 hS (n + 1) (x := id) (by omega) (by omega)
  have b4 := ev_b61 hS (n + 1) (x := ho) (by omega) (by omega)
  obtain ⟨cl, rfl⟩ := Int.eq_ofNat_of_zero_le a1
  obtain ⟨fl, rfl⟩ := Int.eq_ofNat_of_zero_le a3
  have b5 := ev_b64 hS (n + 1) (x := ((1610612736 + cl * 1048576 + fl : Nat) : Int)) (by omega) (by omega)
  have w1 : IntKind.i64.wrap id = id := wrap_id (by omega) (by omega)
  have w2 : IntKind.i64.wrap (at' + 1) = at' + 1 := wrap_id (by omega) (by omega)
  have w3 : IntKind.i64.wrap ((ex.length : Int) - 1) = (ex.length : Int) - 1 := wrap_id (by omega) (by omega)
  have w4 : IntKind.i64.wrap ((cl : Int) * 2 ^ min 20 64) = ((cl * 1048576 : Nat) : Int) := by rw [show min 20 64 = 20 from rfl, wrap_id (by omega) (by omega)]; omega
  have w5 : bitsOf .or .i64 1610612736 ((cl * 1048576 : Nat) : Int) = ((1610612736 + cl * 1048576 : Nat) : Int) := by
    rw [show (1610612736 : Int) = ((1610612736 : Nat) : Int) from rfl, bits_or_nat (by decide) (by simp [IntKind.max, IntKind.signed, IntKind.bits]; omega), or6a (by omega)]
  have w6 : bitsOf .or .i64 ((1610612736 + cl * 1048576 : Nat) : Int) (fl : Int) = ((1610612736 + cl * 1048576 + fl : Nat) : Int) := by
    rw [bits_or_nat (by simp [IntKind.max, IntKind.signed, IntKind.bits]; omega) (by simp [IntKind.max, IntKind.signed, IntKind.bits]; omega), or6b (by omega) (by omega)]
  have hl := beB_len
  have m0 : ∀ k : Nat, k ≤ 1000000 → k ≤ maxStr := fun k h => by unfold maxStr; omega
  have m2 : 2 ≤ maxStr := m0 _ (by decide)
  have m4 : 4 ≤ maxStr := m0 _ (by decide)
  have m6 : 6 ≤ maxStr := m0 _ (by decide)
  have m7 : 7 ≤ maxStr := m0 _ (by decide)
  have m8 : 8 ≤ maxStr := m0 _ (by decide)
  have m24 : 24 ≤ maxStr := m0 _ (by decide)
  have m40 : 40 ≤ maxStr := m0 _ (by decide)
  have mda : 8 + da.length ≤ maxStr := m0 _ (by omega)
  have ht1 : fr.take 16 = fr := List.take_of_length_le (by omega)
  have ht2 : to.take 16 = to := List.take_of_length_le (by omega)
  simp only [go_sem, ↓reduceIte, reduceCtorEq, upd_ne, @back_new _ _ _ _ _ no_at, Nat.reduceAdd, Nat.reduceEqDiff, Nat.reduceMul, Nat.reduceSub, Nat.reduceLeDiff, Nat.reduceLT, Int.reduceToNat, Int.reduceLE, Int.reduceLT, Int.reduceEq, UInt8.reduceOfNat, List.getElem?_map, Int.toNat_natCast, ↓e_sadd, hw, c, hfr, hto, b1, b2, b3, w1, w2, w3, hl, m2, m4, m6, m7, m8, mda, List.append_assoc, List.length_append, List.length_map]
  generalize hB : pcB id at' true pt da = B at *
  rw [show beB 1 pt.toNat ++ (0 :: (beB 2 (at' + 1).toNat ++ (beB 4 id.toNat ++ da))) = B by rw [← hB]; unfold pcB; rw [if_pos rfl, show (at' + 1).toNat = at'.toNat + 1 by omega]]
  have hBl : B.length ≤ 65535 := by rw [← hB]; unfold pcB; simp only [List.length_append, List.length_cons, beB_len]; omega
  have hBs : szE ex + B.length ≤ 65535 := by rw [← hB]; unfold pcB; simp only [List.length_append, List.length_cons, beB_len]; omega
  have hNr : 0 ≤ (44 : Int) ∧ (44 : Int) ≤ 255 := by omega
  refine while_rule (fun k q => ∃ i : Nat, q = ([.str (exB (ex.drop i) 44 B), .int .i64 (nxE (ex.drop i) 44), .int .i64 ((i : Int) - 1)], noSlots) ∧ i ≤ ex.length ∧ k = i) ex.length ⟨ex.length, by rw [List.drop_eq_nil_of_le (Nat.le_refl _)]; rfl, Nat.le_refl _, rfl⟩ ?_
  rintro k q ⟨i, rfl, hi, rfl⟩
  simp only [go_sem, ↓reduceIte, reduceCtorEq, upd_ne, @back_new _ _ _ _ _ no_at, Nat.reduceAdd, Nat.reduceEqDiff, Nat.reduceMul, Nat.reduceSub, Nat.reduceLeDiff, Nat.reduceLT, Int.reduceToNat, Int.reduceLE, Int.reduceLT, Int.reduceEq, UInt8.reduceOfNat]
  refine nxt_ite (fun h => ?_) (fun h => ?_)
  · obtain ⟨j, rfl⟩ : ∃ j, k = j + 1 := ⟨k - 1, by omega⟩
    have hlt : j < ex.length := by omega
    obtain ⟨e, he⟩ : ∃ e, ex[j]? = some e := ⟨ex[j], by simp [hlt]⟩
    have hd := drop_ex he
    have hem := List.mem_of_getElem? he
    have heb := hfb e hem
    have hnr := nxE_rg (p := 44) (kB_drop (i := j + 1) hkb) hNr
    have hxl := exB_len (ex.drop (j + 1)) 44 B
    have hsz := szE_drop ex (j + 1)
    have hsz2 := szE_drop ex j
    rw [hd] at hsz2
    simp only [szE] at hsz2
    have j1 : ((j + 1 : Nat) : Int) - 1 = (j : Int) := by omega
    have j2 : IntKind.i64.wrap ((j : Int) - 1) = (j : Int) - 1 := wrap_id (by omega) (by omega)
    have j3 : IntKind.i64.wrap (Int.tdiv (e.2.length : Int) 8) = ((e.2.length / 8 : Nat) : Int) := by
      rw [show Int.tdiv (e.2.length : Int) 8 = ((e.2.length / 8 : Nat) : Int) from rfl, wrap_id (by omega) (by omega)]
    have c1 := ev_b61 hS (n + 1) (x := nxE (ex.drop (j + 1)) 44) (by omega) (by omega)
    have c2 := ev_b61 hS (n + 1) (x := ((e.2.length / 8 : Nat) : Int)) (by omega) (by omega)
    have m1 : 2 + e.2.length ≤ maxStr := m0 _ (by omega)
    have m3 : 2 + (e.2.length + (szE (ex.drop (j + 1)) + B.length)) ≤ maxStr := m0 _ (by omega)
    have m5 : 2 + e.2.length + (szE (ex.drop (j + 1)) + B.length) ≤ maxStr := m0 _ (by omega)
    have m9 : 1 + (1 + e.2.length) ≤ maxStr := m0 _ (by omega)
    have m10 : 1 + (1 + (e.2.length + (szE (ex.drop (j + 1)) + B.length))) ≤ maxStr := m0 _ (by omega)
    have m11 : 1 + (1 + e.2.length) + (szE (ex.drop (j + 1)) + B.length) ≤ maxStr := m0 _ (by omega)
    simp only [Int.toNat_natCast] at c2
    simp only [go_sem, ↓reduceIte, reduceCtorEq, upd_ne, @back_new _ _ _ _ _ no_at, Nat.reduceAdd, Nat.reduceEqDiff, Nat.reduceMul, Nat.reduceSub, Nat.reduceLeDiff, Nat.reduceLT, Int.reduceToNat, Int.reduceLE, Int.reduceLT, Int.reduceEq, UInt8.reduceOfNat, List.getElem?_map, Int.toNat_natCast, ↓e_sadd, he, j1, j2, j3, c1, c2, hl, hxl, m1, m2, m3, m5, m9, m10, m11, List.append_assoc, List.length_append]
    exact ⟨j, by omega, j, by rw [hd]; rfl, by omega, rfl⟩
  · obtain rfl : k = 0 := by omega
    rw [List.drop_zero]
    have hxl := exB_len ex 44 B
    have hnr := nxE_rg (p := 44) hkb hNr
    have c1 := ev_b61 hS (n + 1) (x := nxE ex 44) (by omega) (by omega)
    have c2 := ev_b62 hS (n + 1) (x := ((szE ex + B.length : Nat) : Int)) (by omega) (by omega)
    simp only [Int.toNat_natCast] at c2 b5
    have m1 : 40 + (szE ex + B.length) ≤ maxStr := m0 _ (by omega)
    have m3 : 4 + (2 + (1 + (1 + (16 + (16 + (szE ex + B.length)))))) ≤ maxStr := m0 _ (by omega)
    have m5 : 4 + (2 + (1 + (1 + 16))) ≤ maxStr := m0 _ (by omega)
    have m9 : 4 + (2 + (1 + (1 + (16 + 16)))) ≤ maxStr := m0 _ (by omega)
    simp only [go_sem, ↓reduceIte, reduceCtorEq, upd_ne, @back_new _ _ _ _ _ no_at, Nat.reduceAdd, Nat.reduceEqDiff, Nat.reduceMul, Nat.reduceSub, Nat.reduceLeDiff, Nat.reduceLT, Int.reduceToNat, Int.reduceLE, Int.reduceLT, Int.reduceEq, UInt8.reduceOfNat, List.getElem?_map, Int.toNat_natCast, ↓e_sadd, Nxt, exIf, hfr, hto, ht1, ht2, toBytes_byteLV, b4, b5, c1, c2, w4, w5, w6, hl, hxl, m1, m2, m3, m4, m5, m6, m7, m8, m9, m24, m40, List.append_assoc, List.length_append, Int.toNat_natCast]
theorem ev_bytes6_tf {cl fl ho : Int} {fr to : List UInt8} {ex : List (Int × List UInt8)} {id at' : Int} {pt : Int} {da : List UInt8} (hf : FitIp6 cl fl ho fr to ex id at' pt da) (c : why6 cl fl ho ex true id at' false pt da = 0) :
    S.ev (n + 4) id_ip6_Bytes [ip6LV cl fl ho fr to (extsLV ex) true id at' false pt da] none = some (.tup [.str (by6 cl fl ho fr to ex true id at' false pt da), .nili], none) := by
  rw [Sys.step hS.h_ip6_Bytes, F_ip6_Bytes_eq]
  unfold F_ip6_Bytes F_ip6_Bytes_k2 F_ip6_Bytes_k1
  have hfr := hf.hfr
  have hto := hf.hto
  have hw := ev_why6 hS n (cl := cl) (fl := fl) (ho := ho) (fr := fr) (to := to) (ex := ex) (fg := true) (id := id) (at' := at') (mo := false) (pt := pt) (da := da) hfr hto hf.hex (fun e he => (hf.hexs e he).2) hf.hda
  rw [c] at hw
  have ok := why6_zero.1 c
  obtain ⟨⟨⟨a1, a2⟩, ⟨a3, a4⟩, ⟨a5, a6⟩, ⟨a7, a8⟩, ⟨a9, a10⟩, a11⟩, ok2, ok3, ok4, ok5, ok6⟩ := ok
  have hkb := ok2.1
  have hfb := fB_le ex true ok3.1
  have hid := hf.hid
  (try simp only [guard_merge, or_merge, and_merge, or_pick, and_pick, guard_or, guard_and]); simp only [to_ob]
  unfold by6 bd6
  simp only [Bool.false_eq_true, if_true, if_false]
  unfold bh6 at ok6
  simp only [Bool.false_eq_true, if_true, if_false] at ok6
  have b1 := ev_b61 hS (n + 1) (x := pt) (by omega) (by omega)
  have b2 := ev_b62 hS (n + 1) (x := at') (by omega) (by omega)
  have b3 := ev_b64 hS (n + 1) (x := id) (by omega) (by omega)
  have b4 := ev_b61 hS (n + 1) (x := ho) (by omega) (by omega)
  obtain ⟨cl, rfl⟩ := Int.eq_ofNat_of_zero_le a1
  obtain ⟨fl, rfl⟩ := Int.eq_ofNat_of_zero_le a3
  have b5 := ev_b64 hS (n + 1) (x := ((1610612736 + cl * 1048576 + fl : Nat) : Int)) (by omega) (by omega)
  have w1 : IntKind.i64.wrap id = id := wrap_id (by omega) (by omega)
  have w2 : IntKind.i64.wrap (at' + 1) = at' + 1 := wrap_id (by omega) (by omega)
  have w3 : IntKind.i64.wrap ((ex.length : Int) - 1) = (ex.length : Int) - 1 := wrap_id (by omega) (by omega)
  have w4 : IntKind.i64.wrap ((cl : Int) * 2 ^ min 20 64) = ((cl * 1048576 : Nat) : Int) := by rw [show min 20 64 = 20 from rfl, wrap_id (by omega) (by omega)]; omega
  have w5 : bitsOf .or .i64 1610612736 ((cl * 1048576 : Nat) : Int) = ((1610612736 + cl * 1048576 : Nat) : Int) := by
    rw [show (1610612736 : Int) = ((1610612736 : Nat) : Int) from rfl, bits_or_nat (by decide) (by simp [IntKind.max, IntKind.signed, IntKind.bits]; omega), or6a (by omega)]
  have w6 : bitsOf .or .i64 ((1610612736 + cl * 1048576 : Nat) : Int) (fl : Int) = ((1610612736 + cl * 1048576 + fl : Nat) : Int) := by
    rw [bits_or_nat (by simp [IntKind.max, IntKind.signed, IntKind.bits]; omega) (by simp [IntKind.max, IntKind.signed, IntKind.bits]; omega), or6b (by omega) (by omega)]
  have hl := beB_len
  have m0 : ∀ k : Nat, k ≤ 1000000 → k ≤ maxStr := fun k h => by unfold maxStr; omega
  have m2 : 2 ≤ maxStr := m0 _ (by decide)
  have m4 : 4 ≤ maxStr := m0 _ (by decide)
  have m6 : 6 ≤ maxStr := m0 _ (by decide)
  have m7 : 7 ≤ maxStr := m0 _ (by decide)
  have m8 : 8 ≤ maxStr := m0 _ (by decide)
  have m24 : 24 ≤ maxStr := m0 _ (by decide)
  have m40 : 40 ≤ maxStr := m0 _ (by decide)
  have mda : 8 + da.length ≤ maxStr := m0 _ (by omega)
  have ht1 : fr.take 16 = fr := List.take_of_length_le (by omega)
  have ht2 : to.take 16 = to := List.take_of_length_le (by omega)
  simp only [go_sem, ↓reduceIte, reduceCtorEq, upd_ne, @back_new _ _ _ _ _ no_at, Nat.reduceAdd, Nat.reduceEqDiff, Nat.reduceMul, Nat.reduceSub, Nat.reduceLeDiff, Nat.reduceLT, Int.reduceToNat, Int.reduceLE, Int.reduceLT, Int.reduceEq, UInt8.reduceOfNat, List.getElem?_map, Int.toNat_natCast, ↓e_sadd, hw, c, hfr, hto, b1, b2, b3, w1, w2, w3, hl, m2, m4, m6, m7, m8, mda, List.append_assoc, List.length_append, List.length_map]
  generalize hB : pcB id at' false pt da = B at *
  rw [show beB 1 pt.toNat ++ (0 :: (beB 2 at'.toNat ++ (beB 4 id.toNat ++ da))) = B by rw [← hB]; unfold pcB; rw [if_neg Bool.false_ne_true, Nat.add_zero]]
  have hBl : B.length ≤ 65535 := by rw [← hB]; unfold pcB; simp only [List.length_append, List.length_cons, beB_len]; omega
  have hBs : szE ex + B.length ≤ 65535 := by rw [← hB]; unfold pcB; simp only [List.length_append, List.length_cons, beB_len]; omega
  have hNr : 0 ≤ (44 : Int) ∧ (44 : Int) ≤ 255 := by omega
  refine while_rule (fun k q => ∃ i : Nat, q = ([.str (exB (ex.drop i) 44 B), .int .i64 (nxE (ex.drop i) 44), .int .i64 ((i : Int) - 1)], noSlots) ∧ i ≤ ex.length ∧ k = i) ex.length ⟨ex.length, by rw [List.drop_eq_nil_of_le (Nat.le_refl _)]; rfl, Nat.le_refl _, rfl⟩ ?_
  rintro k q ⟨i, rfl, hi, rfl⟩
  simp only [go_sem, ↓reduceIte, reduceCtorEq, upd_ne, @back_new _ _ _ _ _ no_at, Nat.reduceAdd, Nat.reduceEqDiff, Nat.reduceMul, Nat.reduceSub, Nat.reduceLeDiff, Nat.reduceLT, Int.reduceToNat, Int.reduceLE, Int.reduceLT, Int.reduceEq, UInt8.reduceOfNat]
  refine nxt_ite (fun h => ?_) (fun h => ?_)
  · obtain ⟨j, rfl⟩ : ∃ j, k = j + 1 := ⟨k - 1, by omega⟩
    have hlt : j < ex.length := by omega
    obtain ⟨e, he⟩ : ∃ e, ex[j]? = some e := ⟨ex[j], by simp [hlt]⟩
    have hd := drop_ex he
    have hem := List.mem_of_getElem? he
    have heb := hfb e hem
    have hnr := nxE_rg (p := 44) (kB_drop (i := j + 1) hkb) hNr
    have hxl := exB_len (ex.drop (j + 1)) 44 B
    have hsz := szE_drop ex (j + 1)
    have hsz2 := szE_drop ex j
    rw [hd] at hsz2
    simp only [szE] at hsz2
    have j1 : ((j + 1 : Nat) : Int) - 1 = (j : Int) := by omega
    have j2 : IntKind.i64.wrap ((j : Int) - 1) = (j : Int) - 1 := wrap_id (by omega) (by omega)
    have j3 : IntKind.i64.wrap (Int.tdiv (e.2.length : Int) 8) = ((e.2.length / 8 : Nat) : Int) := by
      rw [show Int.tdiv (e.2.length : Int) 8 = ((e.2.length / 8 : Nat) : Int) from rfl, wrap_id (by omega) (by omega)]
    have c1 := ev_b61 hS (n + 1) (x := nxE (ex.drop (j + 1)) 44) (by omega) (by omega)
    have c2 := ev_b61 hS (n + 1) (x := ((e.2.length / 8 : Nat) : Int)) (by omega) (by omega)
    have m1 : 2 + e.2.length ≤ maxStr := m0 _ (by omega)
    have m3 : 2 + (e.2.length + (szE (ex.drop (j + 1)) + B.length)) ≤ maxStr := m0 _ (by omega)
    have m5 : 2 + e.2.length + (szE (ex.drop (j + 1)) + B.length) ≤ maxStr := m0 _ (by omega)
    have m9 : 1 + (1 + e.2.length) ≤ maxStr := m0 _ (by omega)
    have m10 : 1 + (1 + (e.2.length + (szE (ex.drop (j + 1)) + B.length))) ≤ maxStr := m0 _ (by omega)
    have m11 : 1 + (1 + e.2.length) + (szE (ex.drop (j + 1)) + B.length) ≤ maxStr := m0 _ (by omega)
    simp only [Int.toNat_natCast] at c2
    simp only [go_sem, ↓reduceIte, reduceCtorEq, upd_ne, @back_new _ _ _ _ _ no_at, Nat.reduceAdd, Nat.reduceEqDiff, Nat.reduceMul, Nat.reduceSub, Nat.reduceLeDiff, Nat.reduceLT, Int.reduceToNat, Int.reduceLE, Int.reduceLT, Int.reduceEq, UInt8.reduceOfNat, List.getElem?_map, Int.toNat_natCast, ↓e_sadd, he, j1, j2, j3, c1, c2, hl, hxl, m1, m2, m3, m5, m9, m10, m11, List.append_assoc, List.length_append]
    exact ⟨j, by omega, j, by rw [hd]; rfl, by omega, rfl⟩
  · obtain rfl : k = 0 := by omega
    rw [List.drop_zero]
    have hxl := exB_len ex 44 B
    have hnr := nxE_rg (p := 44) hkb hNr
    have c1 := ev_b61 hS (n + 1) (x := nxE ex 44) (by omega) (by omega)
    have c2 := ev_b62 hS (n + 1) (x := ((szE ex + B.length : Nat) : Int)) (by omega) (by omega)
    simp only [Int.toNat_natCast] at c2 b5
    have m1 : 40 + (szE ex + B.length) ≤ maxStr := m0 _ (by omega)
    have m3 : 4 + (2 + (1 + (1 + (16 + (16 + (szE ex + B.length)))))) ≤ maxStr := m0 _ (by omega)
    have m5 : 4 + (2 + (1 + (1 + 16))) ≤ maxStr := m0 _ (by omega)
    have m9 : 4 + (2 + (1 + (1 + (16 + 16)))) ≤ maxStr := m0 _ (by omega)
    simp only [go_sem, ↓reduceIte, reduceCtorEq, upd_ne, @back_new _ _ _ _ _ no_at, Nat.reduceAdd, Nat.reduceEqDiff, Nat.reduceMul, Nat.reduceSub, Nat.reduceLeDiff, Nat.reduceLT, Int.reduceToNat, Int.reduceLE, Int.reduceLT, Int.reduceEq, UInt8.reduceOfNat, List.getElem?_map, Int.toNat_natCast, ↓e_sadd, Nxt, exIf, hfr, hto, ht1, ht2, toBytes_byteLV, b4, b5, c1, c2, w4, w5, w6, hl, hxl, m1, m2, m3, m4, m5, m6, m7, m8, m9, m24, m40, List.append_assoc, List.length_append, Int.toNat_natCast]
theorem ev_bytes6_n {cl fl ho : Int} {fr to : List UInt8} {ex : List (Int × List UInt8)} {id at' : Int} {mo : Bool} {pt : Int} {da : List UInt8} (hf : FitIp6 cl fl ho fr to ex id at' pt da) (c : why6 cl fl ho ex false id at' mo pt da = 0) :
    S.ev (n + 4) id_ip6_Bytes [ip6LV cl fl ho fr to (extsLV ex) false id at' mo pt da] none = some (.tup [.str (by6 cl fl ho fr to ex false id at' mo pt da), .nili], none) := by
  rw [Sys.step hS.h_ip6_Bytes, F_ip6_Bytes_eq]
  unfold F_ip6_Bytes F_ip6_Bytes_k2 F_ip6_Bytes_k1
  have hfr := hf.hfr
  have hto := hf.hto
  have hw := ev_why6 hS n (cl := cl) (fl := fl) (ho := ho) (fr := fr) (to := to) (ex := ex) (fg := false) (id := id) (at' := at') (mo := mo) (pt := pt) (da := da) hfr hto hf.hex (fun e he => (hf.hexs e he).2) hf.hda
  rw [c] at hw
  have ok := why6_zero.1 c
  obtain ⟨⟨⟨a1, a2⟩, ⟨a3, a4⟩, ⟨a5, a6⟩, ⟨a7, a8⟩, ⟨a9, a10⟩, a11⟩, ok2, ok3, ok4, ok5, ok6⟩ := ok
  have hkb := ok2.1
  have hfb := fB_le ex true ok3.1
  have hid := hf.hid
  (try simp only [guard_merge, or_merge, and_merge, or_pick, and_pick, guard_or, guard_and]); simp only [to_ob]
  unfold by6 bd6
  simp only [Bool.false_eq_true, if_true, if_false]
  unfold bh6 at ok6
  simp only [Bool.false_eq_true, if_true, if_false] at ok6
  have b1 := ev_b61 hS (n + 1) (x := pt) (by omega) (by omega)
  have b2 := ev_b62 hS (n + 1) (x := at') (by omega) (by omega)
  have b3 := ev_b64 hS (n + 1) (x := id) (by omega) (by omega)
  have b4 := ev_b61 hS (n + 1) (x := ho) (by omega) (by omega)
  obtain ⟨cl, rfl⟩ := Int.eq_ofNat_of_zero_le a1
  obtain ⟨fl, rfl⟩ := Int.eq_ofNat_of_zero_le a3
  have b5 := ev_b64 hS (n + 1) (x := ((1610612736 + cl * 1048576 + fl : Nat) : Int)) (by omega) (by omega)
  have w1 : IntKind.i64.wrap id = id := wrap_id (by omega) (by omega)
  have w2 : IntKind.i64.wrap (at' + 1) = at' + 1 := wrap_id (by omega) (by omega)
  have w3 : IntKind.i64.wrap ((ex.length : Int) - 1) = (ex.length : Int) - 1 := wrap_id (by omega) (by omega)
  have w4 : IntKind.i64.wrap ((cl : Int) * 2 ^ min 20 64) = ((cl * 1048576 : Nat) : Int) := by rw [show min 20 64 = 20 from rfl, wrap_id (by omega) (by omega)]; omega
  have w5 : bitsOf .or .i64 1610612736 ((cl * 1048576 : Nat) : Int) = ((1610612736 + cl * 1048576 : Nat) : Int) := by
    rw [show (1610612736 : Int) = ((1610612736 : Nat) : Int) from rfl, bits_or_nat (by decide) (by simp [IntKind.max, IntKind.signed, IntKind.bits]; omega), or6a (by omega)]
  have w6 : bitsOf .or .i64 ((1610612736 + cl * 1048576 : Nat) : Int) (fl : Int) = ((1610612736 + cl * 1048576 + fl : Nat) : Int) := by
    rw [bits_or_nat (by simp [IntKind.max, IntKind.signed, IntKind.bits]; omega) (by simp [IntKind.max, IntKind.signed, IntKind.bits]; omega), or6b (by omega) (by omega)]
  have hl := beB_len
  have m0 : ∀ k : Nat, k ≤ 1000000 → k ≤ maxStr := fun k h => by unfold maxStr; omega
  have m2 : 2 ≤ maxStr := m0 _ (by decide)
  have m4 : 4 ≤ maxStr := m0 _ (by decide)
  have m6 : 6 ≤ maxStr := m0 _ (by decide)
  have m7 : 7 ≤ maxStr := m0 _ (by decide)
  have m8 : 8 ≤ maxStr := m0 _ (by decide)
  have m24 : 24 ≤ maxStr := m0 _ (by decide)
  have m40 : 40 ≤ maxStr := m0 _ (by decide)
  have mda : 8 + da.length ≤ maxStr := m0 _ (by omega)
  have ht1 : fr.take 16 = fr := List.take_of_length_le (by omega)
  have ht2 : to.take 16 = to := List.take_of_length_le (by omega)
  simp only [go_sem, ↓reduceIte, reduceCtorEq, upd_ne, @back_new _ _ _ _ _ no_at, Nat.reduceAdd, Nat.reduceEqDiff, Nat.reduceMul, Nat.reduceSub, Nat.reduceLeDiff, Nat.reduceLT, Int.reduceToNat, Int.reduceLE, Int.reduceLT, Int.reduceEq, UInt8.reduceOfNat, List.getElem?_map, Int.toNat_natCast, ↓e_sadd, hw, c, hfr, hto, w3, List.length_map]
  generalize hB : da = B at *
  have hBl : B.length ≤ 65535 := by omega
  have hBs : szE ex + B.length ≤ 65535 := by omega
  have hNr : 0 ≤ (pt : Int) ∧ (pt : Int) ≤ 255 := by omega
  refine while_rule (fun k q => ∃ i : Nat, q = ([.str (exB (ex.drop i) pt B), .int .i64 (nxE (ex.drop i) pt), .int .i64 ((i : Int) - 1)], noSlots) ∧ i ≤ ex.length ∧ k = i) ex.length ⟨ex.length, by rw [List.drop_eq_nil_of_le (Nat.le_refl _)]; rfl, Nat.le_refl _, rfl⟩ ?_
  rintro k q ⟨i, rfl, hi, rfl⟩
  simp only [go_sem, ↓reduceIte, reduceCtorEq, upd_ne, @back_new _ _ _ _ _ no_at, Nat.reduceAdd, Nat.reduceEqDiff, Nat.reduceMul, Nat.reduceSub, Nat.reduceLeDiff, Nat.reduceLT, Int.reduceToNat, Int.reduceLE, Int.reduceLT, Int.reduceEq, UInt8.reduceOfNat]
  refine nxt_ite (fun h => ?_) (fun h => ?_)
  · obtain ⟨j, rfl⟩ : ∃ j, k = j + 1 := ⟨k - 1, by omega⟩
    have hlt : j < ex.length := by omega
    obtain ⟨e, he⟩ : ∃ e, ex[j]? = some e := ⟨ex[j], by simp [hlt]⟩
    have hd := drop_ex he
    have hem := List.mem_of_getElem? he
    have heb := hfb e hem
    have hnr := nxE_rg (p := pt) (kB_drop (i := j + 1) hkb) hNr
    have hxl := exB_len (ex.drop (j + 1)) pt B
    have hsz := szE_drop ex (j + 1)
    have hsz2 := szE_drop ex j
    rw [hd] at hsz2
    simp only [szE] at hsz2
    have j1 : ((j + 1 : Nat) : Int) - 1 = (j : Int) := by omega
    have j2 : IntKind.i64.wrap ((j : Int) - 1) = (j : Int) - 1 := wrap_id (by omega) (by omega)
    have j3 : IntKind.i64.wrap (Int.tdiv (e.2.length : Int) 8) = ((e.2.length / 8 : Nat) : Int) := by
      rw [show Int.tdiv (e.2.length : Int) 8 = ((e.2.length / 8 : Nat) : Int) from rfl, wrap_id (by omega) (by omega)]
    have c1 := ev_b61 hS (n + 1) (x := nxE (ex.drop (j + 1)) pt) (by omega) (by omega)
    have c2 := ev_b61 hS (n + 1) (x := ((e.2.length / 8 : Nat) : Int)) (by omega) (by omega)
    have m1 : 2 + e.2.length ≤ maxStr := m0 _ (by omega)
    have m3 : 2 + (e.2.length + (szE (ex.drop (j + 1)) + B.length)) ≤ maxStr := m0 _ (by omega)
    have m5 : 2 + e.2.length + (szE (ex.drop (j + 1)) + B.length) ≤ maxStr := m0 _ (by omega)
    have m9 : 1 + (1 + e.2.length) ≤ maxStr := m0 _ (by omega)
    have m10 : 1 + (1 + (e.2.length + (szE (ex.drop (j + 1)) + B.length))) ≤ maxStr := m0 _ (by omega)
    have m11 : 1 + (1 + e.2.length) + (szE (ex.drop (j + 1)) + B.length) ≤ maxStr := m0 _ (by omega)
    simp only [Int.toNat_natCast] at c2
    simp only [go_sem, ↓reduceIte, reduceCtorEq, upd_ne, @back_new _ _ _ _ _ no_at, Nat.reduceAdd, Nat.reduceEqDiff, Nat.reduceMul, Nat.reduceSub, Nat.reduceLeDiff, Nat.reduceLT, Int.reduceToNat, Int.reduceLE, Int.reduceLT, Int.reduceEq, UInt8.reduceOfNat, List.getElem?_map, Int.toNat_natCast, ↓e_sadd, he, j1, j2, j3, c1, c2, hl, hxl, m1, m2, m3, m5, m9, m10, m11, List.append_assoc, List.length_append]
    exact ⟨j, by omega, j, by rw [hd]; rfl, by omega, rfl⟩
  · obtain rfl : k = 0 := by omega
    rw [List.drop_zero]
    have hxl := exB_len ex pt B
    have hnr := nxE_rg (p := pt) hkb hNr
    have c1 := ev_b61 hS (n + 1) (x := nxE ex pt) (by omega) (by omega)
    have c2 := ev_b62 hS (n + 1) (x := ((szE ex + B.length : Nat) : Int)) (by omega) (by omega)
    simp only [Int.toNat_natCast] at c2 b5
    have m1 : 40 + (szE ex + B.length) ≤ maxStr := m0 _ (by omega)
    have m3 : 4 + (2 + (1 + (1 + (16 + (16 + (szE ex + B.length)))))) ≤ maxStr := m0 _ (by omega)
    have m5 : 4 + (2 + (1 + (1 + 16))) ≤ maxStr := m0 _ (by omega)
    have m9 : 4 + (2 + (1 + (1 + (16 + 16)))) ≤ maxStr := m0 _ (by omega)
    simp only [go_sem, ↓reduceIte, reduceCtorEq, upd_ne, @back_new _ _ _ _ _ no_at, Nat.reduceAdd, Nat.reduceEqDiff, Nat.reduceMul, Nat.reduceSub, Nat.reduceLeDiff, Nat.reduceLT, Int.reduceToNat, Int.reduceLE, Int.reduceLT, Int.reduceEq, UInt8.reduceOfNat, List.getElem?_map, Int.toNat_natCast, ↓e_sadd, Nxt, exIf, hfr, hto, ht1, ht2, toBytes_byteLV, b4, b5, c1, c2, w4, w5, w6, hl, hxl, m1, m2, m3, m4, m5, m6, m7, m8, m9, m24, m40, List.append_assoc, List.length_append, Int.toNat_natCast]
theorem ev_bytes6 {cl fl ho : Int} {fr to : List UInt8} {ex : List (Int × List UInt8)} {fg : Bool} {id at' : Int} {mo : Bool} {pt : Int} {da : List UInt8} (hf : FitIp6 cl fl ho fr to ex id at' pt da) :
    S.ev (n + 4) id_ip6_Bytes [ip6LV cl fl ho fr to (extsLV ex) fg id at' mo pt da] none = some (.tup [.str (by6R cl fl ho fr to ex fg id at' mo pt da), fE (why6 cl fl ho ex fg id at' mo pt da)], none) := by
  unfold by6R
  by_cases c : why6 cl fl ho ex fg id at' mo pt da = 0
  · rw [if_pos c, c]
    cases fg
    · exact ev_bytes6_n hS n hf c
    · cases mo
      · exact ev_bytes6_tf hS n hf c
      · exact ev_bytes6_tt hS n hf c
  · rw [if_neg c, Sys.step hS.h_ip6_Bytes, F_ip6_Bytes_eq]
    unfold F_ip6_Bytes F_ip6_Bytes_k2 F_ip6_Bytes_k1
    have hfr := hf.hfr
    have hto := hf.hto
    have hw := ev_why6 hS n (cl := cl) (fl := fl) (ho := ho) (fr := fr) (to := to) (ex := ex) (fg := fg) (id := id) (at' := at') (mo := mo) (pt := pt) (da := da) hfr hto hf.hex (fun e he => (hf.hexs e he).2) hf.hda
    have hfa := ev_fault6 hS (n + 2)
    (try simp only [guard_merge, or_merge, and_merge, or_pick, and_pick, guard_or, guard_and]); simp only [to_ob]
    simp only [go_sem, ↓reduceIte, reduceCtorEq, upd_ne, @back_new _ _ _ _ _ no_at, Nat.reduceAdd, Nat.reduceEqDiff, Nat.reduceMul, Nat.reduceSub, Nat.reduceLeDiff, Nat.reduceLT, Int.reduceToNat, Int.reduceLE, Int.reduceLT, Int.reduceEq, UInt8.reduceOfNat, hw, hfa, c, hfr, hto, fE]
end
end Go.Ev

namespace Go.Ev
set_option linter.unusedSimpArgs false
set_option linter.unusedVariables false
set_option maxRecDepth 10000
set_option maxHeartbeats 8000000
def pcN (n sz : Nat) : Nat := (n + sz - 1) / sz
theorem pcN_lt {n sz j : Nat} (h : 0 < sz) : j < pcN n sz ↔ j * sz < n := by
  unfold pcN
  rw [show j < (n + sz - 1) / sz ↔ j + 1 ≤ (n + sz - 1) / sz from Iff.rfl, Nat.le_div_iff_mul_le h, Nat.succ_mul]
  omega
def pcLV (n sz i : Nat) : LV := .agg [.int .i64 ((i * sz : Nat) : Int), .int .i64 ((min (i * sz + sz) n : Nat) : Int)]
def pcsLV (n sz j : Nat) : List LV := (List.range j).map (pcLV n sz)
theorem pcs_flat (n sz j : Nat) : ((pcsLV n sz j).all fun v => decide (flatLen v = 2)) = true := by
  rw [List.all_eq_true]
  intro v hv
  obtain ⟨w, _, rfl⟩ := List.mem_map.1 hv
  simp [pcLV, flatLen, sumLen]
theorem pcs_succ (n sz j : Nat) : pcsLV n sz j ++ [pcLV n sz j] = pcsLV n sz (j + 1) := by simp [pcsLV, List.range_succ]
def ln4 (tos id ttl pt at' : Int) (mo : Bool) (op da : List UInt8) : Nat := if why4 tos id ttl pt at' mo op da = 0 then 20 + op.length + da.length else 0
def ln6 (cl fl ho : Int) (ex : List (Int × List UInt8)) (fg : Bool) (id at' : Int) (mo : Bool) (pt : Int) (da : List UInt8) : Nat := if why6 cl fl ho ex fg id at' mo pt da = 0 then 40 + bh6 ex fg da else 0
def hd6 (ex : List (Int × List UInt8)) (fg : Bool) : Nat := 40 + szE ex + (if fg = true then 8 else 0)
theorem bd6_len17 {id at' : Int} {mo : Bool} {pt : Int} {da : List UInt8} (ex : List (Int × List UInt8)) (fg : Bool) : (bd6 ex fg id at' mo pt da).length = bh6 ex fg da := by
  unfold bd6 bh6
  cases fg
  · rw [if_neg (by simp), exB_len]; simp
  · rw [if_pos rfl, exB_len]; simp [pcB, beB_len]; omega
def big6 (ex : List (Int × List UInt8)) (da : List UInt8) : Bool := decide (20 < ex.length) || decide (4000 < da.length) || ex.any fun e => decide (2100 < e.2.length)
section
variable {S : Sys} (hS : Has S) (n : Nat)
include hS
theorem ev_great17 {tos id ttl pt at' : Int} {df mo : Bool} {fr to op da : List UInt8} (hfr : fr.length = 4) (hto : to.length = 4) :
    S.ev (n + 1) id_interpreterlaw17_Great4 [ip4LV tos id ttl pt at' df mo fr to op da] none = some (.bool (decide (4000 < da.length ∨ 100 < op.length)), none) := by
  rw [Sys.step hS.h_interpreterlaw17_Great4, F_interpreterlaw17_Great4_eq]
  unfold F_interpreterlaw17_Great4
  (try simp only [guard_merge, or_merge, and_merge, or_pick, and_pick, guard_or, guard_and]); simp only [to_ob]
  by_cases h1 : 4000 < (da.length : Int) <;> by_cases h2 : 100 < (op.length : Int)
  · rw [decide_eq_true (p := 4000 < da.length ∨ 100 < op.length) (by omega)]; simp only [go_sem, ↓reduceIte, reduceCtorEq, upd_ne, @back_new _ _ _ _ _ no_at, Nat.reduceAdd, Nat.reduceEqDiff, Nat.reduceMul, Nat.reduceSub, Nat.reduceLeDiff, Nat.reduceLT, Int.reduceToNat, Int.reduceLE, Int.reduceLT, Int.reduceEq, UInt8.reduceOfNat, hfr, hto, h1, h2]
  · rw [decide_eq_true (p := 4000 < da.length ∨ 100 < op.length) (by omega)]; simp only [go_sem, ↓reduceIte, reduceCtorEq, upd_ne, @back_new _ _ _ _ _ no_at, Nat.reduceAdd, Nat.reduceEqDiff, Nat.reduceMul, Nat.reduceSub, Nat.reduceLeDiff, Nat.reduceLT, Int.reduceToNat, Int.reduceLE, Int.reduceLT, Int.reduceEq, UInt8.reduceOfNat, hfr, hto, h1, h2]
  · rw [decide_eq_true (p := 4000 < da.length ∨ 100 < op.length) (by omega)]; simp only [go_sem, ↓reduceIte, reduceCtorEq, upd_ne, @back_new _ _ _ _ _ no_at, Nat.reduceAdd, Nat.reduceEqDiff, Nat.reduceMul, Nat.reduceSub, Nat.reduceLeDiff, Nat.reduceLT, Int.reduceToNat, Int.reduceLE, Int.reduceLT, Int.reduceEq, UInt8.reduceOfNat, hfr, hto, h1, h2]
  · rw [decide_eq_false (p := 4000 < da.length ∨ 100 < op.length) (by omega)]; simp only [go_sem, ↓reduceIte, reduceCtorEq, upd_ne, @back_new _ _ _ _ _ no_at, Nat.reduceAdd, Nat.reduceEqDiff, Nat.reduceMul, Nat.reduceSub, Nat.reduceLeDiff, Nat.reduceLT, Int.reduceToNat, Int.reduceLE, Int.reduceLT, Int.reduceEq, UInt8.reduceOfNat, hfr, hto, h1, h2]
theorem ev_len4 {tos id ttl pt at' : Int} {df mo : Bool} {fr to op da : List UInt8} (hf : FitIp4 tos id ttl pt at' fr to op da) :
    S.ev (n + 4) id_refrag_Len4 [ip4LV tos id ttl pt at' df mo fr to op da] none = some (.int .i64 ((ln4 tos id ttl pt at' mo op da : Nat) : Int), none) := by
  rw [Sys.step hS.h_refrag_Len4, F_refrag_Len4_eq]
  unfold F_refrag_Len4
  have hfr := hf.hfr
  have hto := hf.hto
  have hb := ev_bytes4 hS n (df := df) (mo := mo) hf
  (try simp only [guard_merge, or_merge, and_merge, or_pick, and_pick, guard_or, guard_and]); simp only [to_ob]
  unfold ln4
  by_cases c : why4 tos id ttl pt at' mo op da = 0
  · have hl : (by4R tos id ttl pt at' df mo fr to op da).length = 20 + op.length + da.length := by
      unfold by4R; rw [if_pos c]; simp only [by4, hd4, List.length_append, beB_len, hfr, hto]; omega
    rw [if_pos c]
    rw [c] at hb
    generalize by4R tos id ttl pt at' df mo fr to op da = Y at *
    simp only [go_sem, ↓reduceIte, reduceCtorEq, upd_ne, @back_new _ _ _ _ _ no_at, Nat.reduceAdd, Nat.reduceEqDiff, Nat.reduceMul, Nat.reduceSub, Nat.reduceLeDiff, Nat.reduceLT, Int.reduceToNat, Int.reduceLE, Int.reduceLT, Int.reduceEq, UInt8.reduceOfNat, hfr, hto, hb, fE, hl]
  · rw [if_neg c]
    generalize why4 tos id ttl pt at' mo op da = Y at *
    simp only [go_sem, ↓reduceIte, reduceCtorEq, upd_ne, @back_new _ _ _ _ _ no_at, Nat.reduceAdd, Nat.reduceEqDiff, Nat.reduceMul, Nat.reduceSub, Nat.reduceLeDiff, Nat.reduceLT, Int.reduceToNat, Int.reduceLE, Int.reduceLT, Int.reduceEq, UInt8.reduceOfNat, hfr, hto, hb, fE, c]
    try rfl
theorem ev_len6 {cl fl ho : Int} {fr to : List UInt8} {ex : List (Int × List UInt8)} {fg : Bool} {id at' : Int} {mo : Bool} {pt : Int} {da : List UInt8} (hf : FitIp6 cl fl ho fr to ex id at' pt da) :
    S.ev (n + 5) id_refrag_Len6 [ip6LV cl fl ho fr to (extsLV ex) fg id at' mo pt da] none = some (.int .i64 ((ln6 cl fl ho ex fg id at' mo pt da : Nat) : Int), none) := by
  rw [Sys.step hS.h_refrag_Len6, F_refrag_Len6_eq]
  unfold F_refrag_Len6
  have hfr := hf.hfr
  have hto := hf.hto
  have hb := ev_bytes6 hS n (fg := fg) (mo := mo) hf
  (try simp only [guard_merge, or_merge, and_merge, or_pick, and_pick, guard_or, guard_and]); simp only [to_ob]
  unfold ln6
  by_cases c : why6 cl fl ho ex fg id at' mo pt da = 0
  · have hl : (by6R cl fl ho fr to ex fg id at' mo pt da).length = 40 + bh6 ex fg da := by
      unfold by6R; rw [if_pos c]; simp only [by6, List.length_append, beB_len, hfr, hto, bd6_len17]; omega
    rw [if_pos c]
    rw [c] at hb
    generalize by6R cl fl ho fr to ex fg id at' mo pt da = Y at *
    simp only [go_sem, ↓reduceIte, reduceCtorEq, upd_ne, @back_new _ _ _ _ _ no_at, Nat.reduceAdd, Nat.reduceEqDiff, Nat.reduceMul, Nat.reduceSub, Nat.reduceLeDiff, Nat.reduceLT, Int.reduceToNat, Int.reduceLE, Int.reduceLT, Int.reduceEq, UInt8.reduceOfNat, hfr, hto, hb, fE, hl]
  · rw [if_neg c]
    generalize why6 cl fl ho ex fg id at' mo pt da = Y at *
    simp only [go_sem, ↓reduceIte, reduceCtorEq, upd_ne, @back_new _ _ _ _ _ no_at, Nat.reduceAdd, Nat.reduceEqDiff, Nat.reduceMul, Nat.reduceSub, Nat.reduceLeDiff, Nat.reduceLT, Int.reduceToNat, Int.reduceLE, Int.reduceLT, Int.reduceEq, UInt8.reduceOfNat, hfr, hto, hb, fE, c]
    try rfl
theorem ev_pieces {m sz : Nat} (hm : m ≤ 1000000) (h1 : 8 ≤ sz) (h2 : sz ≤ 1000000) :
    S.ev (n + 1) id_refrag_pieces [.int .i64 (m : Int), .int .i64 (sz : Int)] none = some (.lst none (pcsLV m sz (pcN m sz)), none) := by
  rw [Sys.step hS.h_refrag_pieces, F_refrag_pieces_eq]
  unfold F_refrag_pieces
  (try simp only [guard_merge, or_merge, and_merge, or_pick, and_pick, guard_or, guard_and]); simp only [to_ob]
  simp only [go_sem, ↓reduceIte, reduceCtorEq, upd_ne, @back_new _ _ _ _ _ no_at, Nat.reduceAdd, Nat.reduceEqDiff, Nat.reduceMul, Nat.reduceSub, Nat.reduceLeDiff, Nat.reduceLT, Int.reduceToNat, Int.reduceLE, Int.reduceLT, Int.reduceEq, UInt8.reduceOfNat]
  refine while_rule (fun k q => ∃ j A : Nat, A = j * sz ∧ q = ([.lst (some (5, 1)) (pcsLV m sz j), .int .i64 (A : Int)], upd noSlots 5 (.tag 1 j 2)) ∧ j + k = pcN m sz) (pcN m sz) ⟨0, 0, (Nat.zero_mul _).symm, rfl, by omega⟩ ?_
  rintro k q ⟨j, A, hA, rfl, hj⟩
  have hlt := pcN_lt (n := m) (sz := sz) (j := j) (by omega)
  have e3 : A + sz = (j + 1) * sz := by rw [hA, Nat.succ_mul]
  have hp : pcLV m sz j = .agg [.int .i64 (A : Int), .int .i64 ((min (A + sz) m : Nat) : Int)] := by rw [hA]; rfl
  rw [← hA] at hlt
  have hjA : j ≤ A := by rw [hA]; exact Nat.le_mul_of_pos_right j (by omega)
  have hlen : (pcsLV m sz j).length = j := by simp [pcsLV]
  by_cases h : A < m
  · have h' : (A : Int) < (m : Int) := by omega
    have hs : IntKind.i64.wrap ((A : Int) + (sz : Int)) = ((A + sz : Nat) : Int) := by rw [wrap_id (by omega) (by omega)]; omega
    have ha := wAppend_tag (e := 2) (by' := 16) (d := 22) (t := 5) (g := 1) (n := j) (sz := 2) (sl := upd noSlots 5 (.tag 1 j 2)) (l := pcsLV m sz j) (new := [pcLV m sz j]) (by simp [upd]) hlen.symm rfl (pcs_flat _ _ _) (by simp [pcLV, flatLen, sumLen]) (by simp) (by rw [hlen]; simp; omega)
    rw [pcs_succ, hp, upd_upd] at ha
    simp only [List.length_cons, List.length_nil, Nat.zero_add] at ha
    have hmin : (if (m : Int) < ((A + sz : Nat) : Int) then (m : Int) else ((A + sz : Nat) : Int)) = ((min (A + sz) m : Nat) : Int) := by split <;> omega
    simp only [go_sem, ↓reduceIte, reduceCtorEq, upd_ne, @back_new _ _ _ _ _ no_at, Nat.reduceAdd, Nat.reduceEqDiff, Nat.reduceMul, Nat.reduceSub, Nat.reduceLeDiff, Nat.reduceLT, Int.reduceToNat, Int.reduceLE, Int.reduceLT, Int.reduceEq, UInt8.reduceOfNat, List.getElem?_map, Int.toNat_natCast, h', hs, pMinmax, pMinmax2, Option.bind_some, hmin, ha, Bool.false_eq_true]
    exact ⟨k - 1, by omega, j + 1, A + sz, e3, rfl, by omega⟩
  · have h' : ¬ (A : Int) < (m : Int) := by omega
    have hk : j = pcN m sz := by omega
    subst hk
    simp only [go_sem, ↓reduceIte, reduceCtorEq, upd_ne, @back_new _ _ _ _ _ no_at, Nat.reduceAdd, Nat.reduceEqDiff, Nat.reduceMul, Nat.reduceSub, Nat.reduceLeDiff, Nat.reduceLT, Int.reduceToNat, Int.reduceLE, Int.reduceLT, Int.reduceEq, UInt8.reduceOfNat, List.getElem?_map, Int.toNat_natCast, h', Nxt, exIf]
theorem ev_clone {ex : List (Int × List UInt8)} (h : ex.length ≤ 1000) :
    S.ev (n + 1) id_slices_Clone_api_Ext_api_Ext [extsLV ex] none = some (extsLV ex, none) := by
  rw [Sys.step hS.h_slices_Clone_api_Ext_api_Ext, F_slices_Clone_api_Ext_api_Ext_eq]
  unfold F_slices_Clone_api_Ext_api_Ext
  (try simp only [guard_merge, or_merge, and_merge, or_pick, and_pick, guard_or, guard_and]); simp only [to_ob]
  cases ex with
  | nil =>
    have ha : wAppend 2 24 7 noSlots .nils (.lst none []) = some (.nils, noSlots) := rfl
    simp only [go_sem, ↓reduceIte, reduceCtorEq, upd_ne, @back_new _ _ _ _ _ no_at, Nat.reduceAdd, Nat.reduceEqDiff, Nat.reduceMul, Nat.reduceSub, Nat.reduceLeDiff, Nat.reduceLT, Int.reduceToNat, Int.reduceLE, Int.reduceLT, Int.reduceEq, UInt8.reduceOfNat, extsLV, List.map_nil, ha]
  | cons e l =>
    have hf := ext_flat (e :: l)
    have ha : wAppend 2 24 7 noSlots .nils (.lst none ((e :: l).map extLV)) = some (.lst (some (7, 1)) ((e :: l).map extLV), upd noSlots 7 (.tag 1 ((e :: l).map extLV).length 2)) := by
      simp only [wAppend, newEls, hf, if_true, Option.bind_some]
      rw [if_neg (by simp), if_pos (by simp only [List.length_map]; simp only [List.length_cons] at h ⊢; omega)]
      rfl
    simp only [extsLV]
    simp only [List.map_cons] at ha ⊢
    generalize extLV e = E0 at *
    generalize l.map extLV = L0 at *
    simp only [go_sem, ↓reduceIte, reduceCtorEq, upd_ne, @back_new _ _ _ _ _ no_at, Nat.reduceAdd, Nat.reduceEqDiff, Nat.reduceMul, Nat.reduceSub, Nat.reduceLeDiff, Nat.reduceLT, Int.reduceToNat, Int.reduceLE, Int.reduceLT, Int.reduceEq, UInt8.reduceOfNat, ha]
end
end Go.Ev

namespace Go.Ev
set_option linter.unusedSimpArgs false
set_option linter.unusedVariables false
set_option maxRecDepth 10000
set_option maxHeartbeats 8000000
theorem bk3 {t a b g h i n0 n m z : Nat} (h1 : a ≠ t) (h2 : b ≠ t) (h3 : b ≠ a) (ha : a < 1000000) (hb : b < 1000000) {X Y : LV} : back (upd noSlots t (.tag g n0 z)) (upd (upd (upd (upd noSlots t (.tag g n z)) a (.obj h X)) b (.obj i Y)) t (.tag g m z)) = upd noSlots t (.tag g m z) := by
  funext u
  unfold back upd
  by_cases e1 : u = t
  · simp [e1]
  · by_cases e2 : u = a
    · subst e2
      by_cases e3 : u = b
      · exact absurd e3.symm h3
      · simp [e1, e3, no_at, show u < K0 from ha]
    · by_cases e3 : u = b
      · subst e3; simp [e1, no_at, show u < K0 from hb]
      · simp [e1, e2, e3, no_at]
def fA (at' : Int) (sz i : Nat) : Int := at' + ((i * sz : Nat) : Int)
def fM (mo : Bool) (da : List UInt8) (sz i : Nat) : Bool := mo || decide (i * sz + sz < da.length)
def fD (da : List UInt8) (sz i : Nat) : List UInt8 := (da.drop (i * sz)).take (min (i * sz + sz) da.length - i * sz)
section
variable (tos id ttl pt at' : Int) (df mo : Bool) (fr to op da : List UInt8)
def fr4 (sz i : Nat) : LV := ip4LV tos id ttl pt (fA at' sz i) df (fM mo da sz i) fr to op (fD da sz i)
def frs4 (sz j : Nat) : List LV := (List.range j).map (fr4 tos id ttl pt at' df mo fr to op da sz)
def sz4 (mtu : Int) (op : List UInt8) : Nat := (mtu.toNat - (20 + op.length)) / 8 * 8
def cutC (mtu : Int) : Int :=
  if ln4 tos id ttl pt at' mo op da = 0 ∨ mtu < 68 ∨ 65535 < mtu then 1 else if (ln4 tos id ttl pt at' mo op da : Int) ≤ mtu then 0 else if df = true then 3 else 0
def cutL (mtu : Int) : List LV :=
  if ln4 tos id ttl pt at' mo op da = 0 ∨ mtu < 68 ∨ 65535 < mtu then [] else if (ln4 tos id ttl pt at' mo op da : Int) ≤ mtu then [ip4LV tos id ttl pt at' df mo fr to op da] else if df = true then [] else frs4 tos id ttl pt at' df mo fr to op da (sz4 mtu op) (pcN da.length (sz4 mtu op))
end
section
variable {tos id ttl pt at' : Int} {df mo : Bool} {fr to op da : List UInt8}
theorem frs4_flat (hfr : fr.length = 4) (hto : to.length = 4) (sz j : Nat) : ((frs4 tos id ttl pt at' df mo fr to op da sz j).all fun v => decide (flatLen v = 17)) = true := by
  rw [List.all_eq_true]
  intro v hv
  obtain ⟨w, _, rfl⟩ := List.mem_map.1 hv
  simp [fr4, flatLen, sumLen, hfr, hto]
theorem frs4_succ (sz j : Nat) : frs4 tos id ttl pt at' df mo fr to op da sz j ++ [fr4 tos id ttl pt at' df mo fr to op da sz j] = frs4 tos id ttl pt at' df mo fr to op da sz (j + 1) := by simp [frs4, List.range_succ]
variable {S : Sys} (hS : Has S) (n : Nat)
include hS
theorem ev_cut4 (hf : FitIp4 tos id ttl pt at' fr to op da) (mtu : Int) :
    S.ev (n + 5) id_refrag_Cut4 [ip4LV tos id ttl pt at' df mo fr to op da, .int .i64 mtu] none = some (.tup [.lst none (cutL tos id ttl pt at' df mo fr to op da mtu), .int .i64 (cutC tos id ttl pt at' df mo op da mtu)], none) := by
  rw [Sys.step hS.h_refrag_Cut4, F_refrag_Cut4_eq]
  unfold F_refrag_Cut4
  have hfr := hf.hfr
  have hto := hf.hto
  have hl := ev_len4 hS n (df := df) (mo := mo) hf
  (try simp only [guard_merge, or_merge, and_merge, or_pick, and_pick, guard_or, guard_and]); simp only [to_ob]
  unfold cutL cutC
  have hz : ((ln4 tos id ttl pt at' mo op da : Nat) : Int) = 0 ↔ ln4 tos id ttl pt at' mo op da = 0 := by omega
  generalize hn : ln4 tos id ttl pt at' mo op da = N at *
  by_cases c : N = 0 ∨ mtu < 68 ∨ 65535 < mtu
  · rw [if_pos c, if_pos c]
    have e1 : ((N : Int) = 0 ∨ mtu < 68) ∨ 65535 < mtu := by omega
    by_cases a1 : (N : Int) = 0 <;> by_cases a2 : mtu < 68 <;> by_cases a3 : 65535 < mtu <;> first | (exfalso; omega) | simp only [go_sem, ↓reduceIte, reduceCtorEq, upd_ne, @back_new _ _ _ _ _ no_at, Nat.reduceAdd, Nat.reduceEqDiff, Nat.reduceMul, Nat.reduceSub, Nat.reduceLeDiff, Nat.reduceLT, Int.reduceToNat, Int.reduceLE, Int.reduceLT, Int.reduceEq, UInt8.reduceOfNat, hfr, hto, hl, a1, a2, a3]
  · rw [if_neg c, if_neg c]
    have a1 : ¬ (N : Int) = 0 := by omega
    have a2 : ¬ mtu < 68 := by omega
    have a3 : ¬ 65535 < mtu := by omega
    by_cases d : (N : Int) ≤ mtu
    · rw [if_pos d, if_pos d]
      simp only [go_sem, ↓reduceIte, reduceCtorEq, upd_ne, @back_new _ _ _ _ _ no_at, Nat.reduceAdd, Nat.reduceEqDiff, Nat.reduceMul, Nat.reduceSub, Nat.reduceLeDiff, Nat.reduceLT, Int.reduceToNat, Int.reduceLE, Int.reduceLT, Int.reduceEq, UInt8.reduceOfNat, hfr, hto, hl, a1, a2, a3, d]
    · rw [if_neg d, if_neg d]
      cases df
      case true => simp only [go_sem, ↓reduceIte, reduceCtorEq, upd_ne, @back_new _ _ _ _ _ no_at, Nat.reduceAdd, Nat.reduceEqDiff, Nat.reduceMul, Nat.reduceSub, Nat.reduceLeDiff, Nat.reduceLT, Int.reduceToNat, Int.reduceLE, Int.reduceLT, Int.reduceEq, UInt8.reduceOfNat, hfr, hto, hl, a1, a2, a3, d]
      rw [if_neg (by simp), if_neg (by simp)]
      have hok : why4 tos id ttl pt at' mo op da = 0 := by
        unfold ln4 at hn
        apply Classical.byContradiction
        intro h; rw [if_neg h] at hn; omega
      have ok := why4_zero.1 hok
      have hN : N = 20 + op.length + da.length := by unfold ln4 at hn; rw [if_pos hok] at hn; omega
      obtain ⟨o1, o2, o3, o4, o5, o6, o7, o8, o9, o10⟩ := ok
      obtain ⟨M, rfl⟩ := Int.eq_ofNat_of_zero_le (show 0 ≤ mtu by omega)
      have hsz : sz4 (M : Int) op = (M - (20 + op.length)) / 8 * 8 := by unfold sz4; rw [Int.toNat_natCast]
      have b1 : IntKind.i64.wrap ((N : Int) - (da.length : Int)) = ((20 + op.length : Nat) : Int) := by rw [wrap_id (by omega) (by omega)]; omega
      have b2 : IntKind.i64.wrap ((M : Int) - ((20 + op.length : Nat) : Int)) = ((M - (20 + op.length) : Nat) : Int) := by rw [wrap_id (by omega) (by omega)]; omega
      have b3 : IntKind.i64.wrap (Int.tdiv ((M - (20 + op.length) : Nat) : Int) 8) = (((M - (20 + op.length)) / 8 : Nat) : Int) := by
        rw [show Int.tdiv ((M - (20 + op.length) : Nat) : Int) 8 = (((M - (20 + op.length)) / 8 : Nat) : Int) from rfl, wrap_id (by omega) (by omega)]
      have b4 : IntKind.i64.wrap ((((M - (20 + op.length)) / 8 : Nat) : Int) * 8) = (((M - (20 + op.length)) / 8 * 8 : Nat) : Int) := by rw [wrap_id (by omega) (by omega)]; omega
      rw [← hsz] at b4
      have s1 : 8 ≤ sz4 (M : Int) op := by omega
      have s2 : sz4 (M : Int) op ≤ 65535 := by omega
      generalize sz4 (M : Int) op = sz at *
      have hp := ev_pieces hS (n + 3) (m := da.length) (sz := sz) (by omega) s1 (by omega)
      have hpl : (pcsLV da.length sz (pcN da.length sz)).length = pcN da.length sz := by simp [pcsLV]
      simp only [go_sem, ↓reduceIte, reduceCtorEq, upd_ne, @back_new _ _ _ _ _ no_at, Nat.reduceAdd, Nat.reduceEqDiff, Nat.reduceMul, Nat.reduceSub, Nat.reduceLeDiff, Nat.reduceLT, Int.reduceToNat, Int.reduceLE, Int.reduceLT, Int.reduceEq, UInt8.reduceOfNat, hfr, hto, hl, a1, a2, a3, d, b1, b2, b3, b4, hp, hpl]
      refine while_rule (fun k q => ∃ j A : Nat, A = j * sz ∧ q = ([.lst (some (8, 1)) (frs4 tos id ttl pt at' false mo fr to op da sz j), .int .i64 (j : Int)], upd noSlots 8 (.tag 1 j 17)) ∧ j + k = pcN da.length sz) (pcN da.length sz) ⟨0, 0, (Nat.zero_mul _).symm, rfl, by omega⟩ ?_
      rintro k q ⟨j, A, hA, rfl, hj⟩
      have hlt := pcN_lt (n := da.length) (sz := sz) (j := j) (by omega)
      rw [← hA] at hlt
      have e3 : A + sz = (j + 1) * sz := by rw [hA, Nat.succ_mul]
      have hjA : j ≤ A := by rw [hA]; exact Nat.le_mul_of_pos_right j (by omega)
      have hlen : (frs4 tos id ttl pt at' false mo fr to op da sz j).length = j := by simp [frs4]
      by_cases h : A < da.length
      · have hjN := hlt.2 h
        have h' : (j : Int) < ((pcN da.length sz : Nat) : Int) := by omega
        have hget : (pcsLV da.length sz (pcN da.length sz))[j]? = some (.agg [.int .i64 (A : Int), .int .i64 ((min (A + sz) da.length : Nat) : Int)]) := by
          simp only [pcsLV, List.getElem?_map, List.getElem?_range hjN, Option.map_some, pcLV, ← hA]
        have hfl : fr4 tos id ttl pt at' false mo fr to op da sz j = ip4LV tos id ttl pt (at' + (A : Int)) false (mo || decide (A + sz < da.length)) fr to op ((da.drop A).take (min (A + sz) da.length - A)) := by
          unfold fr4 fA fM fD; rw [← hA]
        have ha : ∀ X Y : LV, wAppend 17 88 82 (upd (upd (upd noSlots 8 (.tag 1 j 17)) 10 (.obj 1 X)) 11 (.obj 1 Y)) (.lst (some (8, 1)) (frs4 tos id ttl pt at' false mo fr to op da sz j)) (.lst none [fr4 tos id ttl pt at' false mo fr to op da sz j]) = some (.lst (some (8, 1)) (frs4 tos id ttl pt at' false mo fr to op da sz (j + 1)), upd (upd (upd (upd noSlots 8 (.tag 1 j 17)) 10 (.obj 1 X)) 11 (.obj 1 Y)) 8 (.tag 1 (j + 1) 17)) := by
          intro X Y
          have := wAppend_tag (e := 17) (by' := 88) (d := 82) (t := 8) (g := 1) (n := j) (sz := 17) (sl := upd (upd (upd noSlots 8 (.tag 1 j 17)) 10 (.obj 1 X)) 11 (.obj 1 Y)) (l := frs4 tos id ttl pt at' false mo fr to op da sz j) (new := [fr4 tos id ttl pt at' false mo fr to op da sz j]) (by simp [upd]) hlen.symm rfl (frs4_flat hfr hto _ _) (by simp [fr4, flatLen, sumLen, hfr, hto]) (by simp) (by rw [hlen]; simp; omega)
          rw [frs4_succ] at this
          exact this
        rw [hfl] at ha
        have hbk := @bk3 8 10 11 1 1 1 0 j (j + 1) 17 (by omega) (by omega) (by omega) (by omega) (by omega)
        have e1 : IntKind.i64.wrap (at' + (A : Int)) = at' + (A : Int) := wrap_id (by omega) (by omega)
        have e2 : IntKind.i64.wrap ((j : Int) + 1) = ((j + 1 : Nat) : Int) := by rw [wrap_id (by omega) (by omega)]; omega
        have c1 : A ≤ min (A + sz) da.length := by omega
        have c2 : min (A + sz) da.length ≤ da.length := by omega
        have c3 : decide (((min (A + sz) da.length : Nat) : Int) < (da.length : Int)) = decide (A + sz < da.length) := decide_eq_decide.2 (by omega)
        generalize min (A + sz) da.length = B at *
        generalize hmd : decide (A + sz < da.length) = md at *
        cases mo
        · rw [Bool.false_or] at ha
          simp only [go_sem, ↓reduceIte, reduceCtorEq, upd_ne, @back_new _ _ _ _ _ no_at, Nat.reduceAdd, Nat.reduceEqDiff, Nat.reduceMul, Nat.reduceSub, Nat.reduceLeDiff, Nat.reduceLT, Int.reduceToNat, Int.reduceLE, Int.reduceLT, Int.reduceEq, UInt8.reduceOfNat, List.getElem?_map, Int.toNat_natCast, h', hget, hfr, hto, e1, e2, c1, c2, c3, ha, hbk, upd_same, refOk]
          exact ⟨k - 1, by omega, j + 1, A + sz, e3, rfl, by omega⟩
        · rw [Bool.true_or] at ha
          simp only [go_sem, ↓reduceIte, reduceCtorEq, upd_ne, @back_new _ _ _ _ _ no_at, Nat.reduceAdd, Nat.reduceEqDiff, Nat.reduceMul, Nat.reduceSub, Nat.reduceLeDiff, Nat.reduceLT, Int.reduceToNat, Int.reduceLE, Int.reduceLT, Int.reduceEq, UInt8.reduceOfNat, List.getElem?_map, Int.toNat_natCast, h', hget, hfr, hto, e1, e2, c1, c2, c3, ha, hbk, upd_same, refOk]
          exact ⟨k - 1, by omega, j + 1, A + sz, e3, rfl, by omega⟩
      · have hk : j = pcN da.length sz := by omega
        have h' : ¬ (j : Int) < ((pcN da.length sz : Nat) : Int) := by omega
        subst hk
        simp only [go_sem, ↓reduceIte, reduceCtorEq, upd_ne, @back_new _ _ _ _ _ no_at, Nat.reduceAdd, Nat.reduceEqDiff, Nat.reduceMul, Nat.reduceSub, Nat.reduceLeDiff, Nat.reduceLT, Int.reduceToNat, Int.reduceLE, Int.reduceLT, Int.reduceEq, UInt8.reduceOfNat, List.getElem?_map, Int.toNat_natCast, h', Nxt, exIf]
end
end Go.Ev

namespace Go.Ev
set_option linter.unusedSimpArgs false
set_option linter.unusedVariables false
set_option maxRecDepth 10000
set_option maxHeartbeats 8000000
theorem bk4 {s t a b h0 g h i n0 n m z : Nat} (h1 : a ≠ t) (h2 : b ≠ t) (h3 : b ≠ a) (h4 : s ≠ t) (h5 : a ≠ s) (h6 : b ≠ s) (ha : a < 1000000) (hb : b < 1000000) {P Q X Y : LV} : back (upd (upd noSlots s (.obj h0 Q)) t (.tag g n0 z)) (upd (upd (upd (upd (upd noSlots s (.obj h0 P)) t (.tag g n z)) a (.obj h X)) b (.obj i Y)) t (.tag g m z)) = upd (upd noSlots s (.obj h0 P)) t (.tag g m z) := by
  funext u
  unfold back upd
  by_cases e1 : u = t
  · simp [e1]
  · by_cases e2 : u = a
    · subst e2
      by_cases e3 : u = b
      · exact absurd e3.symm h3
      · simp [e1, e3, no_at, h5, show u < K0 from ha]
    · by_cases e3 : u = b
      · subst e3; simp [e1, no_at, h6, show u < K0 from hb]
      · by_cases e4 : u = s
        · subst e4; simp [e1, e2, e3, no_at]
        · simp [e1, e2, e3, e4, no_at]
section
variable (cl fl ho : Int) (fr to : List UInt8) (ex : List (Int × List UInt8)) (id at' : Int) (mo : Bool) (pt : Int) (da : List UInt8)
def fr6 (sz i : Nat) : LV := ip6LV cl fl ho fr to (extsLV ex) true id (fA at' sz i) (fM mo da sz i) pt (fD da sz i)
def frs6 (sz j : Nat) : List LV := (List.range j).map (fr6 cl fl ho fr to ex id at' mo pt da sz)
def rm6 (M : Nat) (ex : List (Int × List UInt8)) : Nat := (M - hd6 ex true) / 8 * 8
end
section
variable {cl fl ho : Int} {fr to : List UInt8} {ex : List (Int × List UInt8)} {fg : Bool} {id at' : Int} {mo : Bool} {pt : Int} {da : List UInt8}
theorem frs6_flat (hfr : fr.length = 16) (hto : to.length = 16) (sz j : Nat) : ((frs6 cl fl ho fr to ex id at' mo pt da sz j).all fun v => decide (flatLen v = 42)) = true := by
  rw [List.all_eq_true]
  intro v hv
  obtain ⟨w, _, rfl⟩ := List.mem_map.1 hv
  simp [fr6, flatLen, sumLen, hfr, hto]
theorem frs6_succ (sz j : Nat) : frs6 cl fl ho fr to ex id at' mo pt da sz j ++ [fr6 cl fl ho fr to ex id at' mo pt da sz j] = frs6 cl fl ho fr to ex id at' mo pt da sz (j + 1) := by simp [frs6, List.range_succ]
variable {S : Sys} (hS : Has S) (n : Nat)
include hS
theorem ev_cut6_f (hf : FitIp6 cl fl ho fr to ex id at' pt da) (hok : why6 cl fl ho ex false id at' mo pt da = 0) {M : Nat} (hM : 1280 ≤ M ∧ M ≤ 65535) (hlong : M < 40 + bh6 ex false da) (nid : Int) :
    S.ev (n + 6) id_refrag_Cut6 [ip6LV cl fl ho fr to (extsLV ex) false id at' mo pt da, .int .i64 (M : Int), .int .u32 nid] none =
      if M < hd6 ex true + 8 then some (.tup [.lst none [], .int .i64 13], none) else some (.tup [.lst none (frs6 cl fl ho fr to ex nid at' mo pt da (rm6 M ex) (pcN da.length (rm6 M ex))), .int .i64 0], none) := by
  rw [Sys.step hS.h_refrag_Cut6, F_refrag_Cut6_eq]
  unfold F_refrag_Cut6 F_refrag_Cut6_k1
  have hfr := hf.hfr
  have hto := hf.hto
  have hl := ev_len6 hS n (fg := false) (mo := mo) hf
  (try simp only [guard_merge, or_merge, and_merge, or_pick, and_pick, guard_or, guard_and]); simp only [to_ob]
  have hn : ln6 cl fl ho ex false id at' mo pt da = 40 + bh6 ex false da := by unfold ln6; rw [if_pos hok]
  rw [hn] at hl
  have ok := why6_zero.1 hok
  have hall := ok.all
  have hrg := ok.rg
  have hbb := ok.bh
  have hex8 := ok.n8
  have hbh : bh6 ex false da = szE ex + 0 + da.length := by unfold bh6; simp
  have hhd : hd6 ex true = 40 + szE ex + 8 := by unfold hd6; simp
  generalize hN : 40 + bh6 ex false da = N at *
  have hcl := ev_clone hS (n + 4) (ex := ex) (by omega)
  have a1 : ¬ (N : Int) = 0 := by omega
  have a2 : ¬ (M : Int) < 1280 := by omega
  have a3 : ¬ 65535 < (M : Int) := by omega
  have d : ¬ (N : Int) ≤ (M : Int) := by omega
  have b1 : IntKind.i64.wrap ((N : Int) - (da.length : Int)) = ((40 + szE ex : Nat) : Int) := by rw [wrap_id (by omega) (by omega)]; omega
  have b1' : IntKind.i64.wrap (((40 + szE ex : Nat) : Int) + 8) = ((hd6 ex true : Nat) : Int) := by rw [wrap_id (by omega) (by omega)]; omega
  generalize hH : hd6 ex true = H at *
  have b2 : IntKind.i64.wrap ((M : Int) - (H : Int)) = (M : Int) - (H : Int) := wrap_id (by omega) (by omega)
  generalize hX : extsLV ex = EX at *
  have hEX : LV.isAgg EX = false ∧ stor EX = true ∧ flatLen EX = 1 ∧ psl EX = some EX ∧ plainRes EX = true := by rw [← hX]; exact ⟨Eq.trans rfl rfl, Eq.trans rfl rfl, by simp only [extsLV, flatLen], by simp only [extsLV, psl], Eq.trans rfl rfl⟩
  obtain ⟨x1, x2, x3, x4, x5⟩ := hEX
  by_cases c : M < H + 8
  · rw [if_pos c]
    have b3 : (M : Int) - (H : Int) < 8 := by omega
    simp only [go_sem, ↓reduceIte, reduceCtorEq, upd_ne, @back_new _ _ _ _ _ no_at, Nat.reduceAdd, Nat.reduceEqDiff, Nat.reduceMul, Nat.reduceSub, Nat.reduceLeDiff, Nat.reduceLT, Int.reduceToNat, Int.reduceLE, Int.reduceLT, Int.reduceEq, UInt8.reduceOfNat, hfr, hto, hl, a1, a2, a3, d, b1, b1', b2, b3, x1, x2, x3, x4, x5]
  · rw [if_neg c]
    have b3 : ¬ (M : Int) - (H : Int) < 8 := by omega
    have b4 : (M : Int) - (H : Int) = ((M - H : Nat) : Int) := by omega
    have b5 : IntKind.i64.wrap (Int.tdiv ((M - H : Nat) : Int) 8) = (((M - H) / 8 : Nat) : Int) := by
      rw [show Int.tdiv ((M - H : Nat) : Int) 8 = (((M - H) / 8 : Nat) : Int) from rfl, wrap_id (by omega) (by omega)]
    rw [← b4] at b5
    have hsz : rm6 M ex = (M - H) / 8 * 8 := by unfold rm6; rw [hH]
    have b6 : IntKind.i64.wrap ((((M - H) / 8 : Nat) : Int) * 8) = ((rm6 M ex : Nat) : Int) := by rw [hsz, wrap_id (by omega) (by omega)]; omega
    have s1 : 8 ≤ rm6 M ex := by omega
    have s2 : rm6 M ex ≤ 65535 := by omega
    generalize rm6 M ex = sz at *
    have hp := ev_pieces hS (n + 4) (m := da.length) (sz := sz) (by omega) s1 (by omega)
    have hpl : (pcsLV da.length sz (pcN da.length sz)).length = pcN da.length sz := by simp [pcsLV]
    simp only [go_sem, ↓reduceIte, reduceCtorEq, upd_ne, @back_new _ _ _ _ _ no_at, Nat.reduceAdd, Nat.reduceEqDiff, Nat.reduceMul, Nat.reduceSub, Nat.reduceLeDiff, Nat.reduceLT, Int.reduceToNat, Int.reduceLE, Int.reduceLT, Int.reduceEq, UInt8.reduceOfNat, hfr, hto, hl, a1, a2, a3, d, b1, b1', b2, b3, b5, b6, hp, hpl, x1, x2, x3, x4, x5]
    refine while_rule (fun k q => ∃ j A : Nat, A = j * sz ∧ q = ([.lst (some (11, 1)) (frs6 cl fl ho fr to ex nid at' mo pt da sz j), .int .i64 (j : Int)], upd (upd noSlots 3 (.obj 1 (ip6LV cl fl ho fr to EX false nid at' mo pt da))) 11 (.tag 1 j 42)) ∧ j + k = pcN da.length sz) (pcN da.length sz) ⟨0, 0, (Nat.zero_mul _).symm, rfl, by omega⟩ ?_
    rintro k q ⟨j, A, hA, rfl, hj⟩
    have hlt := pcN_lt (n := da.length) (sz := sz) (j := j) (by omega)
    rw [← hA] at hlt
    have e3 : A + sz = (j + 1) * sz := by rw [hA, Nat.succ_mul]
    have hjA : j ≤ A := by rw [hA]; exact Nat.le_mul_of_pos_right j (by omega)
    have hlen : (frs6 cl fl ho fr to ex nid at' mo pt da sz j).length = j := by simp [frs6]
    by_cases h : A < da.length
    · have hjN := hlt.2 h
      have h' : (j : Int) < ((pcN da.length sz : Nat) : Int) := by omega
      have hget : (pcsLV da.length sz (pcN da.length sz))[j]? = some (.agg [.int .i64 (A : Int), .int .i64 ((min (A + sz) da.length : Nat) : Int)]) := by
        simp only [pcsLV, List.getElem?_map, List.getElem?_range hjN, Option.map_some, pcLV, ← hA]
      have hfl : fr6 cl fl ho fr to ex nid at' mo pt da sz j = ip6LV cl fl ho fr to EX true nid (at' + (A : Int)) (mo || decide (A + sz < da.length)) pt ((da.drop A).take (min (A + sz) da.length - A)) := by
        unfold fr6 fA fM fD; rw [← hA, hX]
      have ha : ∀ P X Y : LV, wAppend 42 128 99 (upd (upd (upd (upd noSlots 3 (.obj 1 P)) 11 (.tag 1 j 42)) 13 (.obj 1 X)) 14 (.obj 1 Y)) (.lst (some (11, 1)) (frs6 cl fl ho fr to ex nid at' mo pt da sz j)) (.lst none [fr6 cl fl ho fr to ex nid at' mo pt da sz j]) = some (.lst (some (11, 1)) (frs6 cl fl ho fr to ex nid at' mo pt da sz (j + 1)), upd (upd (upd (upd (upd noSlots 3 (.obj 1 P)) 11 (.tag 1 j 42)) 13 (.obj 1 X)) 14 (.obj 1 Y)) 11 (.tag 1 (j + 1) 42)) := by
        intro P X Y
        have := wAppend_tag (e := 42) (by' := 128) (d := 99) (t := 11) (g := 1) (n := j) (sz := 42) (sl := upd (upd (upd (upd noSlots 3 (.obj 1 P)) 11 (.tag 1 j 42)) 13 (.obj 1 X)) 14 (.obj 1 Y)) (l := frs6 cl fl ho fr to ex nid at' mo pt da sz j) (new := [fr6 cl fl ho fr to ex nid at' mo pt da sz j]) (by simp [upd]) hlen.symm rfl (frs6_flat hfr hto _ _) (by simp [fr6, flatLen, sumLen, hfr, hto]) (by simp) (by rw [hlen]; simp; omega)
        rw [frs6_succ] at this
        exact this
      rw [hfl] at ha
      have hbk := @bk4 3 11 13 14 1 1 1 1 0 j (j + 1) 42 (by omega) (by omega) (by omega) (by omega) (by omega) (by omega) (by omega) (by omega)
      have e1 : IntKind.i64.wrap (at' + (A : Int)) = at' + (A : Int) := wrap_id (by omega) (by omega)
      have e2 : IntKind.i64.wrap ((j : Int) + 1) = ((j + 1 : Nat) : Int) := by rw [wrap_id (by omega) (by omega)]; omega
      have c1 : A ≤ min (A + sz) da.length := by omega
      have c2 : min (A + sz) da.length ≤ da.length := by omega
      have c3 : decide (((min (A + sz) da.length : Nat) : Int) < (da.length : Int)) = decide (A + sz < da.length) := decide_eq_decide.2 (by omega)
      generalize min (A + sz) da.length = B at *
      generalize hmd : decide (A + sz < da.length) = md at *
      cases mo
      · rw [Bool.false_or] at ha
        simp only [go_sem, ↓reduceIte, reduceCtorEq, upd_ne, @back_new _ _ _ _ _ no_at, Nat.reduceAdd, Nat.reduceEqDiff, Nat.reduceMul, Nat.reduceSub, Nat.reduceLeDiff, Nat.reduceLT, Int.reduceToNat, Int.reduceLE, Int.reduceLT, Int.reduceEq, UInt8.reduceOfNat, List.getElem?_map, Int.toNat_natCast, h', hget, hfr, hto, e1, e2, c1, c2, c3, ha, hbk, hcl, x1, x2, x3, x4, x5, upd_same, refOk]
        exact ⟨k - 1, by omega, j + 1, A + sz, e3, rfl, by omega⟩
      · rw [Bool.true_or] at ha
        simp only [go_sem, ↓reduceIte, reduceCtorEq, upd_ne, @back_new _ _ _ _ _ no_at, Nat.reduceAdd, Nat.reduceEqDiff, Nat.reduceMul, Nat.reduceSub, Nat.reduceLeDiff, Nat.reduceLT, Int.reduceToNat, Int.reduceLE, Int.reduceLT, Int.reduceEq, UInt8.reduceOfNat, List.getElem?_map, Int.toNat_natCast, h', hget, hfr, hto, e1, e2, c1, c2, c3, ha, hbk, hcl, x1, x2, x3, x4, x5, upd_same, refOk]
        exact ⟨k - 1, by omega, j + 1, A + sz, e3, rfl, by omega⟩
    · have hk : j = pcN da.length sz := by omega
      have h' : ¬ (j : Int) < ((pcN da.length sz : Nat) : Int) := by omega
      subst hk
      simp only [go_sem, ↓reduceIte, reduceCtorEq, upd_ne, @back_new _ _ _ _ _ no_at, Nat.reduceAdd, Nat.reduceEqDiff, Nat.reduceMul, Nat.reduceSub, Nat.reduceLeDiff, Nat.reduceLT, Int.reduceToNat, Int.reduceLE, Int.reduceLT, Int.reduceEq, UInt8.reduceOfNat, List.getElem?_map, Int.toNat_natCast, h', Nxt, exIf]
end
end Go.Ev

namespace Go.Ev
set_option linter.unusedSimpArgs false
set_option linter.unusedVariables false
set_option maxRecDepth 10000
set_option maxHeartbeats 8000000
section
variable {cl fl ho : Int} {fr to : List UInt8} {ex : List (Int × List UInt8)} {fg : Bool} {id at' : Int} {mo : Bool} {pt : Int} {da : List UInt8}
variable {S : Sys} (hS : Has S) (n : Nat)
include hS
theorem ev_cut6_t (hf : FitIp6 cl fl ho fr to ex id at' pt da) (hok : why6 cl fl ho ex true id at' mo pt da = 0) {M : Nat} (hM : 1280 ≤ M ∧ M ≤ 65535) (hlong : M < 40 + bh6 ex true da) (nid : Int) :
    S.ev (n + 6) id_refrag_Cut6 [ip6LV cl fl ho fr to (extsLV ex) true id at' mo pt da, .int .i64 (M : Int), .int .u32 nid] none =
      if M < hd6 ex true + 8 then some (.tup [.lst none [], .int .i64 13], none) else some (.tup [.lst none (frs6 cl fl ho fr to ex id at' mo pt da (rm6 M ex) (pcN da.length (rm6 M ex))), .int .i64 0], none) := by
  rw [Sys.step hS.h_refrag_Cut6, F_refrag_Cut6_eq]
  unfold F_refrag_Cut6 F_refrag_Cut6_k1
  have hfr := hf.hfr
  have hto := hf.hto
  have hl := ev_len6 hS n (fg := true) (mo := mo) hf
  (try simp only [guard_merge, or_merge, and_merge, or_pick, and_pick, guard_or, guard_and]); simp only [to_ob]
  have hn : ln6 cl fl ho ex true id at' mo pt da = 40 + bh6 ex true da := by unfold ln6; rw [if_pos hok]
  rw [hn] at hl
  have ok := why6_zero.1 hok
  have hall := ok.all
  have hrg := ok.rg
  have hbb := ok.bh
  have hex8 := ok.n8
  have hbh : bh6 ex true da = szE ex + 8 + da.length := by unfold bh6; simp
  have hhd : hd6 ex true = 40 + szE ex + 8 := by unfold hd6; simp
  generalize hN : 40 + bh6 ex true da = N at *
  have hcl := ev_clone hS (n + 4) (ex := ex) (by omega)
  have a1 : ¬ (N : Int) = 0 := by omega
  have a2 : ¬ (M : Int) < 1280 := by omega
  have a3 : ¬ 65535 < (M : Int) := by omega
  have d : ¬ (N : Int) ≤ (M : Int) := by omega
  have b1 : IntKind.i64.wrap ((N : Int) - (da.length : Int)) = ((hd6 ex true : Nat) : Int) := by rw [wrap_id (by omega) (by omega)]; omega
  have b1' : IntKind.i64.wrap (((40 + szE ex : Nat) : Int) + 8) = ((hd6 ex true : Nat) : Int) := by rw [wrap_id (by omega) (by omega)]; omega
  generalize hH : hd6 ex true = H at *
  have b2 : IntKind.i64.wrap ((M : Int) - (H : Int)) = (M : Int) - (H : Int) := wrap_id (by omega) (by omega)
  generalize hX : extsLV ex = EX at *
  have hEX : LV.isAgg EX = false ∧ stor EX = true ∧ flatLen EX = 1 ∧ psl EX = some EX ∧ plainRes EX = true := by rw [← hX]; exact ⟨Eq.trans rfl rfl, Eq.trans rfl rfl, by simp only [extsLV, flatLen], by simp only [extsLV, psl], Eq.trans rfl rfl⟩
  obtain ⟨x1, x2, x3, x4, x5⟩ := hEX
  by_cases c : M < H + 8
  · rw [if_pos c]
    have b3 : (M : Int) - (H : Int) < 8 := by omega
    simp only [go_sem, ↓reduceIte, reduceCtorEq, upd_ne, @back_new _ _ _ _ _ no_at, Nat.reduceAdd, Nat.reduceEqDiff, Nat.reduceMul, Nat.reduceSub, Nat.reduceLeDiff, Nat.reduceLT, Int.reduceToNat, Int.reduceLE, Int.reduceLT, Int.reduceEq, UInt8.reduceOfNat, hfr, hto, hl, a1, a2, a3, d, b1, b1', b2, b3, x1, x2, x3, x4, x5]
  · rw [if_neg c]
    have b3 : ¬ (M : Int) - (H : Int) < 8 := by omega
    have b4 : (M : Int) - (H : Int) = ((M - H : Nat) : Int) := by omega
    have b5 : IntKind.i64.wrap (Int.tdiv ((M - H : Nat) : Int) 8) = (((M - H) / 8 : Nat) : Int) := by
      rw [show Int.tdiv ((M - H : Nat) : Int) 8 = (((M - H) / 8 : Nat) : Int) from rfl, wrap_id (by omega) (by omega)]
    rw [← b4] at b5
    have hsz : rm6 M ex = (M - H) / 8 * 8 := by unfold rm6; rw [hH]
    have b6 : IntKind.i64.wrap ((((M - H) / 8 : Nat) : Int) * 8) = ((rm6 M ex : Nat) : Int) := by rw [hsz, wrap_id (by omega) (by omega)]; omega
    have s1 : 8 ≤ rm6 M ex := by omega
    have s2 : rm6 M ex ≤ 65535 := by omega
    generalize rm6 M ex = sz at *
    have hp := ev_pieces hS (n + 4) (m := da.length) (sz := sz) (by omega) s1 (by omega)
    have hpl : (pcsLV da.length sz (pcN da.length sz)).length = pcN da.length sz := by simp [pcsLV]
    simp only [go_sem, ↓reduceIte, reduceCtorEq, upd_ne, @back_new _ _ _ _ _ no_at, Nat.reduceAdd, Nat.reduceEqDiff, Nat.reduceMul, Nat.reduceSub, Nat.reduceLeDiff, Nat.reduceLT, Int.reduceToNat, Int.reduceLE, Int.reduceLT, Int.reduceEq, UInt8.reduceOfNat, hfr, hto, hl, a1, a2, a3, d, b1, b1', b2, b3, b5, b6, hp, hpl, x1, x2, x3, x4, x5]
    refine while_rule (fun k q => ∃ j A : Nat, A = j * sz ∧ q = ([.lst (some (11, 1)) (frs6 cl fl ho fr to ex id at' mo pt da sz j), .int .i64 (j : Int)], upd (upd noSlots 3 (.obj 1 (ip6LV cl fl ho fr to EX true id at' mo pt da))) 11 (.tag 1 j 42)) ∧ j + k = pcN da.length sz) (pcN da.length sz) ⟨0, 0, (Nat.zero_mul _).symm, rfl, by omega⟩ ?_
    rintro k q ⟨j, A, hA, rfl, hj⟩
    have hlt := pcN_lt (n := da.length) (sz := sz) (j := j) (by omega)
    rw [← hA] at hlt
    have e3 : A + sz = (j + 1) * sz := by rw [hA, Nat.succ_mul]
    have hjA : j ≤ A := by rw [hA]; exact Nat.le_mul_of_pos_right j (by omega)
    have hlen : (frs6 cl fl ho fr to ex id at' mo pt da sz j).length = j := by simp [frs6]
    by_cases h : A < da.length
    · have hjN := hlt.2 h
      have h' : (j : Int) < ((pcN da.length sz : Nat) : Int) := by omega
      have hget : (pcsLV da.length sz (pcN da.length sz))[j]? = some (.agg [.int .i64 (A : Int), .int .i64 ((min (A + sz) da.length : Nat) : Int)]) := by
        simp only [pcsLV, List.getElem?_map, List.getElem?_range hjN, Option.map_some, pcLV, ← hA]
      have hfl : fr6 cl fl ho fr to ex id at' mo pt da sz j = ip6LV cl fl ho fr to EX true id (at' + (A : Int)) (mo || decide (A + sz < da.length)) pt ((da.drop A).take (min (A + sz) da.length - A)) := by
        unfold fr6 fA fM fD; rw [← hA, hX]
      have ha : ∀ P X Y : LV, wAppend 42 128 99 (upd (upd (upd (upd noSlots 3 (.obj 1 P)) 11 (.tag 1 j 42)) 13 (.obj 1 X)) 14 (.obj 1 Y)) (.lst (some (11, 1)) (frs6 cl fl ho fr to ex id at' mo pt da sz j)) (.lst none [fr6 cl fl ho fr to ex id at' mo pt da sz j]) = some (.lst (some (11, 1)) (frs6 cl fl ho fr to ex id at' mo pt da sz (j + 1)), upd (upd (upd (upd (upd noSlots 3 (.obj 1 P)) 11 (.tag 1 j 42)) 13 (.obj 1 X)) 14 (.obj 1 Y)) 11 (.tag 1 (j + 1) 42)) := by
        intro P X Y
        have := wAppend_tag (e := 42) (by' := 128) (d := 99) (t := 11) (g := 1) (n := j) (sz := 42) (sl := upd (upd (upd (upd noSlots 3 (.obj 1 P)) 11 (.tag 1 j 42)) 13 (.obj 1 X)) 14 (.obj 1 Y)) (l := frs6 cl fl ho fr to ex id at' mo pt da sz j) (new := [fr6 cl fl ho fr to ex id at' mo pt da sz j]) (by simp [upd]) hlen.symm rfl (frs6_flat hfr hto _ _) (by simp [fr6, flatLen, sumLen, hfr, hto]) (by simp) (by rw [hlen]; simp; omega)
        rw [frs6_succ] at this
        exact this
      rw [hfl] at ha
      have hbk := @bk4 3 11 13 14 1 1 1 1 0 j (j + 1) 42 (by omega) (by omega) (by omega) (by omega) (by omega) (by omega) (by omega) (by omega)
      have e1 : IntKind.i64.wrap (at' + (A : Int)) = at' + (A : Int) := wrap_id (by omega) (by omega)
      have e2 : IntKind.i64.wrap ((j : Int) + 1) = ((j + 1 : Nat) : Int) := by rw [wrap_id (by omega) (by omega)]; omega
      have c1 : A ≤ min (A + sz) da.length := by omega
      have c2 : min (A + sz) da.length ≤ da.length := by omega
      have c3 : decide (((min (A + sz) da.length : Nat) : Int) < (da.length : Int)) = decide (A + sz < da.length) := decide_eq_decide.2 (by omega)
      generalize min (A + sz) da.length = B at *
      generalize hmd : decide (A + sz < da.length) = md at *
      cases mo
      · rw [Bool.false_or] at ha
        simp only [go_sem, ↓reduceIte, reduceCtorEq, upd_ne, @back_new _ _ _ _ _ no_at, Nat.reduceAdd, Nat.reduceEqDiff, Nat.reduceMul, Nat.reduceSub, Nat.reduceLeDiff, Nat.reduceLT, Int.reduceToNat, Int.reduceLE, Int.reduceLT, Int.reduceEq, UInt8.reduceOfNat, List.getElem?_map, Int.toNat_natCast, h', hget, hfr, hto, e1, e2, c1, c2, c3, ha, hbk, hcl, x1, x2, x3, x4, x5, upd_same, refOk]
        exact ⟨k - 1, by omega, j + 1, A + sz, e3, rfl, by omega⟩
      · rw [Bool.true_or] at ha
        simp only [go_sem, ↓reduceIte, reduceCtorEq, upd_ne, @back_new _ _ _ _ _ no_at, Nat.reduceAdd, Nat.reduceEqDiff, Nat.reduceMul, Nat.reduceSub, Nat.reduceLeDiff, Nat.reduceLT, Int.reduceToNat, Int.reduceLE, Int.reduceLT, Int.reduceEq, UInt8.reduceOfNat, List.getElem?_map, Int.toNat_natCast, h', hget, hfr, hto, e1, e2, c1, c2, c3, ha, hbk, hcl, x1, x2, x3, x4, x5, upd_same, refOk]
        exact ⟨k - 1, by omega, j + 1, A + sz, e3, rfl, by omega⟩
    · have hk : j = pcN da.length sz := by omega
      have h' : ¬ (j : Int) < ((pcN da.length sz : Nat) : Int) := by omega
      subst hk
      simp only [go_sem, ↓reduceIte, reduceCtorEq, upd_ne, @back_new _ _ _ _ _ no_at, Nat.reduceAdd, Nat.reduceEqDiff, Nat.reduceMul, Nat.reduceSub, Nat.reduceLeDiff, Nat.reduceLT, Int.reduceToNat, Int.reduceLE, Int.reduceLT, Int.reduceEq, UInt8.reduceOfNat, List.getElem?_map, Int.toNat_natCast, h', Nxt, exIf]
end
end Go.Ev

namespace Go.Ev
set_option linter.unusedSimpArgs false
set_option linter.unusedVariables false
set_option maxRecDepth 10000
set_option maxHeartbeats 8000000
section
variable (cl fl ho : Int) (fr to : List UInt8) (ex : List (Int × List UInt8)) (fg : Bool) (id at' : Int) (mo : Bool) (pt : Int) (da : List UInt8) (mtu nid : Int)
def cut6C : Int :=
  if ln6 cl fl ho ex fg id at' mo pt da = 0 ∨ mtu < 1280 ∨ 65535 < mtu then 1 else if (ln6 cl fl ho ex fg id at' mo pt da : Int) ≤ mtu then 0 else if mtu.toNat < hd6 ex true + 8 then 13 else 0
def cut6L : List LV :=
  if ln6 cl fl ho ex fg id at' mo pt da = 0 ∨ mtu < 1280 ∨ 65535 < mtu then [] else if (ln6 cl fl ho ex fg id at' mo pt da : Int) ≤ mtu then [ip6LV cl fl ho fr to (extsLV ex) fg id at' mo pt da] else if mtu.toNat < hd6 ex true + 8 then [] else
    frs6 cl fl ho fr to ex (if fg = true then id else nid) at' mo pt da (rm6 mtu.toNat ex) (pcN da.length (rm6 mtu.toNat ex))
end
section
variable {cl fl ho : Int} {fr to : List UInt8} {ex : List (Int × List UInt8)} {fg : Bool} {id at' : Int} {mo : Bool} {pt : Int} {da : List UInt8}
variable {S : Sys} (hS : Has S) (n : Nat)
include hS
omit hS in
theorem fit_four (k : Nat) (hk : k ≤ 5000) : FitIp4 0 0 9 17 0 [1, 0, 0, 1] [1, 0, 0, 2] [] (List.replicate k 0) := ⟨by unfold I64; omega, by unfold I64; omega, by unfold I64; omega, by unfold I64; omega, by unfold I64; omega, rfl, rfl, by simp, by rw [List.length_replicate]; omega⟩
omit hS in
theorem fit_six (k : Nat) (hk : k ≤ 5000) : FitIp6 0 0 9 [1, 0, 0, 0, 0, 0, 0, 0, 0, 0, 0, 0, 0, 0, 0, 0] [2, 0, 0, 0, 0, 0, 0, 0, 0, 0, 0, 0, 0, 0, 0, 0] [] 0 0 17 (List.replicate k 0) := ⟨by unfold I64; omega, by unfold I64; omega, by unfold I64; omega, rfl, rfl, by simp, by simp, by omega, by unfold I64; omega, by unfold I64; omega, by rw [List.length_replicate]; omega⟩
omit hS in
theorem ln_four (k : Nat) (hk : k ≤ 5000) : ln4 0 0 9 17 0 false [] (List.replicate k 0) = 20 + k := by
  unfold ln4
  rw [if_pos (why4_zero.2 ⟨by omega, by omega, by omega, by omega, by omega, rfl, by simp, by simp, by simp, by rw [List.length_replicate]; simp; omega⟩), List.length_replicate]; rfl
omit hS in
theorem ln_ten : ln4 0 0 9 17 0 false [] (List.replicate 10 0) = 30 := ln_four 10 (by omega)
omit hS in
theorem cutC_four : cutC 0 0 9 17 0 false false [] (List.replicate 100 0) 68 = 0 := by unfold cutC; rw [ln_four 100 (by omega)]; simp
omit hS in
theorem cutL_four : cutL 0 0 9 17 0 false false [1, 0, 0, 1] [1, 0, 0, 2] [] (List.replicate 100 0) 68 = [ip4LV 0 0 9 17 0 false true [1, 0, 0, 1] [1, 0, 0, 2] [] (List.replicate 48 0), ip4LV 0 0 9 17 48 false true [1, 0, 0, 1] [1, 0, 0, 2] [] (List.replicate 48 0), ip4LV 0 0 9 17 96 false false [1, 0, 0, 1] [1, 0, 0, 2] [] (List.replicate 4 0)] := by
  unfold cutL
  rw [ln_four 100 (by omega), if_neg (by omega), if_neg (by omega), if_neg (by simp)]
  rw [show sz4 68 [] = 48 from rfl, List.length_replicate, show pcN 100 48 = 3 from rfl]
  simp [frs4, fr4, fA, fM, fD, List.range_succ, List.drop_replicate, List.take_replicate]
omit hS in
theorem ln_six (k : Nat) (hk : k ≤ 5000) : ln6 0 0 9 [] false 0 0 false 17 (List.replicate k 0) = 40 + k := by
  unfold ln6
  rw [if_pos (why6_zero.2 ⟨by decide, by refine ⟨rfl, fun _ => ⟨by decide, by omega⟩⟩, by simp [fm6', fB], by simp, by rw [List.length_replicate]; omega, by simp [bh6, szE]; omega⟩)]
  simp [bh6, szE]
omit hS in
theorem cutC_six : cut6C 0 0 9 [] false 0 0 false 17 (List.replicate 1241 0) 1280 = 0 := by unfold cut6C; rw [ln_six 1241 (by omega), if_neg (by omega), if_neg (by omega), if_neg (by decide)]
omit hS in
theorem cutL_six : cut6L 0 0 9 [1, 0, 0, 0, 0, 0, 0, 0, 0, 0, 0, 0, 0, 0, 0, 0] [2, 0, 0, 0, 0, 0, 0, 0, 0, 0, 0, 0, 0, 0, 0, 0] [] false 0 0 false 17 (List.replicate 1241 0) 1280 7 = [ip6LV 0 0 9 [1, 0, 0, 0, 0, 0, 0, 0, 0, 0, 0, 0, 0, 0, 0, 0] [2, 0, 0, 0, 0, 0, 0, 0, 0, 0, 0, 0, 0, 0, 0, 0] (extsLV []) true 7 0 true 17 (List.replicate 1232 0), ip6LV 0 0 9 [1, 0, 0, 0, 0, 0, 0, 0, 0, 0, 0, 0, 0, 0, 0, 0] [2, 0, 0, 0, 0, 0, 0, 0, 0, 0, 0, 0, 0, 0, 0, 0] (extsLV []) true 7 1232 false 17 (List.replicate 9 0)] := by
  unfold cut6L
  rw [ln_six 1241 (by omega), if_neg (by omega), if_neg (by omega), if_neg (by decide)]
  rw [show rm6 (Int.toNat 1280) [] = 1232 from rfl, List.length_replicate, show pcN 1241 1232 = 2 from rfl]
  simp [frs6, fr6, fA, fM, fD, List.range_succ, List.drop_replicate, List.take_replicate]
theorem ev_cut6 (hf : FitIp6 cl fl ho fr to ex id at' pt da) (mtu nid : Int) :
    S.ev (n + 6) id_refrag_Cut6 [ip6LV cl fl ho fr to (extsLV ex) fg id at' mo pt da, .int .i64 mtu, .int .u32 nid] none = some (.tup [.lst none (cut6L cl fl ho fr to ex fg id at' mo pt da mtu nid), .int .i64 (cut6C cl fl ho ex fg id at' mo pt da mtu)], none) := by
  unfold cut6L cut6C
  by_cases d : ¬ (ln6 cl fl ho ex fg id at' mo pt da = 0 ∨ mtu < 1280 ∨ 65535 < mtu) ∧ ¬ (ln6 cl fl ho ex fg id at' mo pt da : Int) ≤ mtu
  · obtain ⟨d1, d2⟩ := d
    rw [if_neg d1, if_neg d1, if_neg d2, if_neg d2]
    have hok : why6 cl fl ho ex fg id at' mo pt da = 0 := by
      apply Classical.byContradiction
      intro h; unfold ln6 at d1; rw [if_neg h] at d1; simp at d1
    unfold ln6 at d1 d2
    rw [if_pos hok] at d1 d2
    obtain ⟨M, rfl⟩ := Int.eq_ofNat_of_zero_le (show 0 ≤ mtu by omega)
    rw [Int.toNat_natCast]
    cases fg
    · rw [ev_cut6_f hS n hf hok (M := M) (by omega) (by omega) nid]
      split <;> rfl
    · rw [ev_cut6_t hS n hf hok (M := M) (by omega) (by omega) nid]
      split <;> rfl
  · rw [Sys.step hS.h_refrag_Cut6, F_refrag_Cut6_eq]
    unfold F_refrag_Cut6 F_refrag_Cut6_k1
    have hfr := hf.hfr
    have hto := hf.hto
    have hl := ev_len6 hS n (fg := fg) (mo := mo) hf
    (try simp only [guard_merge, or_merge, and_merge, or_pick, and_pick, guard_or, guard_and]); simp only [to_ob]
    generalize hn : ln6 cl fl ho ex fg id at' mo pt da = N at *
    generalize hX : extsLV ex = EX at *
    have hEX : LV.isAgg EX = false ∧ stor EX = true ∧ flatLen EX = 1 ∧ psl EX = some EX ∧ plainRes EX = true := by rw [← hX]; exact ⟨Eq.trans rfl rfl, Eq.trans rfl rfl, by simp only [extsLV, flatLen], by simp only [extsLV, psl], Eq.trans rfl rfl⟩
    obtain ⟨x1, x2, x3, x4, x5⟩ := hEX
    by_cases c : N = 0 ∨ mtu < 1280 ∨ 65535 < mtu
    · rw [if_pos c, if_pos c]
      by_cases a1 : (N : Int) = 0 <;> by_cases a2 : mtu < 1280 <;> by_cases a3 : 65535 < mtu <;> first | (exfalso; omega) | simp only [go_sem, ↓reduceIte, reduceCtorEq, upd_ne, @back_new _ _ _ _ _ no_at, Nat.reduceAdd, Nat.reduceEqDiff, Nat.reduceMul, Nat.reduceSub, Nat.reduceLeDiff, Nat.reduceLT, Int.reduceToNat, Int.reduceLE, Int.reduceLT, Int.reduceEq, UInt8.reduceOfNat, hfr, hto, hl, a1, a2, a3, x1, x2, x3, x4, x5]
    · rw [if_neg c, if_neg c]
      have d : (N : Int) ≤ mtu := by
        apply Classical.byContradiction; intro h; exact d ⟨c, h⟩
      rw [if_pos d, if_pos d]
      have a1 : ¬ (N : Int) = 0 := by omega
      have a2 : ¬ mtu < 1280 := by omega
      have a3 : ¬ 65535 < mtu := by omega
      simp only [go_sem, ↓reduceIte, reduceCtorEq, upd_ne, @back_new _ _ _ _ _ no_at, Nat.reduceAdd, Nat.reduceEqDiff, Nat.reduceMul, Nat.reduceSub, Nat.reduceLeDiff, Nat.reduceLT, Int.reduceToNat, Int.reduceLE, Int.reduceLT, Int.reduceEq, UInt8.reduceOfNat, hfr, hto, hl, a1, a2, a3, d, x1, x2, x3, x4, x5]
theorem ev_four (k : Nat) (hk : k ≤ 5000) : S.ev (n + 1) id_interpreterlaw17_four [.int .i64 (k : Int)] none = some (ip4LV 0 0 9 17 0 false false [1, 0, 0, 1] [1, 0, 0, 2] [] (List.replicate k 0), none) := by
  rw [Sys.step hS.h_interpreterlaw17_four, F_interpreterlaw17_four_eq]
  unfold F_interpreterlaw17_four
  (try simp only [guard_merge, or_merge, and_merge, or_pick, and_pick, guard_or, guard_and]); simp only [to_ob]
  simp only [go_sem, ↓reduceIte, reduceCtorEq, upd_ne, @back_new _ _ _ _ _ no_at, Nat.reduceAdd, Nat.reduceEqDiff, Nat.reduceMul, Nat.reduceSub, Nat.reduceLeDiff, Nat.reduceLT, Int.reduceToNat, Int.reduceLE, Int.reduceLT, Int.reduceEq, UInt8.reduceOfNat]
  rw [if_pos (by omega), if_pos (Nat.le_refl _)]
  rfl
theorem ev_six (k : Nat) (hk : k ≤ 5000) : S.ev (n + 1) id_interpreterlaw17_six [.int .i64 (k : Int)] none = some (ip6LV 0 0 9 [1, 0, 0, 0, 0, 0, 0, 0, 0, 0, 0, 0, 0, 0, 0, 0] [2, 0, 0, 0, 0, 0, 0, 0, 0, 0, 0, 0, 0, 0, 0, 0] (extsLV []) false 0 0 false 17 (List.replicate k 0), none) := by
  rw [Sys.step hS.h_interpreterlaw17_six, F_interpreterlaw17_six_eq]
  unfold F_interpreterlaw17_six
  (try simp only [guard_merge, or_merge, and_merge, or_pick, and_pick, guard_or, guard_and]); simp only [to_ob]
  simp only [go_sem, ↓reduceIte, reduceCtorEq, upd_ne, @back_new _ _ _ _ _ no_at, Nat.reduceAdd, Nat.reduceEqDiff, Nat.reduceMul, Nat.reduceSub, Nat.reduceLeDiff, Nat.reduceLT, Int.reduceToNat, Int.reduceLE, Int.reduceLT, Int.reduceEq, UInt8.reduceOfNat]
  rw [if_pos (by omega), if_pos (Nat.le_refl _)]
  rfl
theorem ev_wakes17 : S.ev (n + 7) id_interpreterlaw17_wakes [] none = some (.bool true, none) := by
  rw [Sys.step hS.h_interpreterlaw17_wakes, F_interpreterlaw17_wakes_eq]
  unfold F_interpreterlaw17_wakes
  have h1 : S.ev (n + 6) id_interpreterlaw17_four [.int .i64 100] none = _ := ev_four hS (n + 5) 100 (by omega)
  have h2 : S.ev (n + 6) id_interpreterlaw17_six [.int .i64 1241] none = _ := ev_six hS (n + 5) 1241 (by omega)
  have h3 : S.ev (n + 6) id_interpreterlaw17_four [.int .i64 10] none = _ := ev_four hS (n + 5) 10 (by omega)
  have h4 := ev_cut4 hS (n + 1) (df := false) (mo := false) (fit_four 100 (by omega)) 68
  have h5 := ev_cut6 hS n (fg := false) (mo := false) (fit_six 1241 (by omega)) 1280 7
  have h6 := ev_len4 hS (n + 2) (df := false) (mo := false) (fit_four 10 (by omega))
  rw [cutC_four, cutL_four] at h4
  rw [cutC_six, cutL_six] at h5
  rw [ln_ten] at h6
  generalize hz0 : List.replicate 100 (0 : UInt8) = z0 at h1 h4
  generalize hz1 : List.replicate 1241 (0 : UInt8) = z1 at h2 h5
  generalize hz2 : List.replicate 10 (0 : UInt8) = z2 at h3 h6
  generalize hz3 : List.replicate 48 (0 : UInt8) = z3 at h4
  generalize hz4 : List.replicate 4 (0 : UInt8) = z4 at h4
  generalize hz5 : List.replicate 1232 (0 : UInt8) = z5 at h5
  generalize hz6 : List.replicate 9 (0 : UInt8) = z6 at h5
  simp only [extsLV, List.map_nil] at h2 h5
  have n2 : ((2 : Nat) : Int) = 2 := rfl
  have n3 : ((3 : Nat) : Int) = 3 := rfl
  have n4 : ((4 : Nat) : Int) = 4 := rfl
  have n30 : ((30 : Nat) : Int) = 30 := rfl
  have hl4 : z4.length = 4 := by rw [← hz4]; simp
  (try simp only [guard_merge, or_merge, and_merge, or_pick, and_pick, guard_or, guard_and]); simp only [to_ob]
  simp only [go_sem, ↓reduceIte, reduceCtorEq, upd_ne, @back_new _ _ _ _ _ no_at, Nat.reduceAdd, Nat.reduceEqDiff, Nat.reduceMul, Nat.reduceSub, Nat.reduceLeDiff, Nat.reduceLT, Int.reduceToNat, Int.reduceLE, Int.reduceLT, Int.reduceEq, UInt8.reduceOfNat, h1, h2, h3, h4, h5, h6, hl4, n2, n3, n4, n30, decide_true, Bool.and_self, Int.reduceNeg, List.length_cons, List.length_nil, List.getElem?_cons_zero, List.getElem?_cons_succ]
end
end Go.Ev

namespace Go.Ev
set_option linter.unusedSimpArgs false
set_option linter.unusedVariables false
set_option maxRecDepth 4000
set_option maxHeartbeats 2000000
structure Pc where
  a : Nat
  m : Bool
  d : List UInt8
def pkLV (p : Pc) : LV := .agg [.str [107], .str [115], .int .i64 (p.a : Int), .bool p.m, .str p.d, .str []]
theorem pc_ps (p : Pc) : psl (pkLV p) = some (pkLV p) := by simp [pkLV, psl, pslL]
theorem pc_pg (p : Pc) : pslG (pkLV p) = some (pkLV p) := by simp [pkLV, pslG, pslGL]
theorem pc_fl (p : Pc) : flatLen (pkLV p) = 6 := by simp [pkLV, flatLen, sumLen]
theorem pc_ag (p : Pc) : (pkLV p).isAgg = true := rfl
theorem pc_st (p : Pc) : stor (pkLV p) = true := rfl
theorem pcs_sum (l : List Pc) : sumLen (l.map pkLV) = l.length * 6 := by
  induction l with
  | nil => rfl
  | cons p l ih => simp only [List.map_cons, sumLen, pc_fl, ih, List.length_cons]; omega
theorem pcs_all (l : List Pc) : (l.map pkLV).all (fun v => decide (flatLen v = 6)) = true := by simp [pc_fl]
def pTo (p : Pc) : Nat := p.a + p.d.length
def cmpI (a b : Int) : Int := if a < b then -1 else if b < a then 1 else 0
def cz (p q : Pc) : Int := if cmpI p.a q.a ≠ 0 then cmpI p.a q.a else cmpI (pTo p) (pTo q)
def kz (p : Pc) : Nat := p.a * 65536 + p.d.length
def OkP (p : Pc) : Prop := p.a ≤ 65535 ∧ p.d.length ≤ 65535
theorem cmpI_lt {a b : Int} (h : a < b) : cmpI a b = -1 := by unfold cmpI; rw [if_pos h]
theorem cmpI_gt {a b : Int} (h : b < a) : cmpI a b = 1 := by unfold cmpI; rw [if_neg (by omega), if_pos h]
theorem cmpI_eq {a b : Int} (h : a = b) : cmpI a b = 0 := by unfold cmpI; rw [if_neg (by omega), if_neg (by omega)]
theorem cz_lt {p q : Pc} (hp : OkP p) (hq : OkP q) : cz p q < 0 ↔ kz p < kz q := by
  obtain ⟨h1, h2⟩ := hp
  obtain ⟨h3, h4⟩ := hq
  unfold cz kz pTo
  rcases Nat.lt_trichotomy p.a q.a with c | c | c
  · rw [cmpI_lt (by omega)]; simp; omega
  · rw [cmpI_eq (by omega)]
    rcases Nat.lt_trichotomy p.d.length q.d.length with d | d | d
    · rw [cmpI_lt (by omega)]; simp; omega
    · rw [cmpI_eq (by omega)]; simp; omega
    · rw [cmpI_gt (by omega)]; simp; omega
  · rw [cmpI_gt (by omega)]; simp; omega
section
variable {S : Sys} (hS : Has S) (n : Nat)
include hS
theorem ev_to (p : Pc) (hp : OkP p) : S.ev (n + 1) id_frag_Piece_to [pkLV p] none = some (.int .i64 ((pTo p : Nat) : Int), none) := by
  rw [Sys.step hS.h_frag_Piece_to, F_frag_Piece_to_eq]
  unfold F_frag_Piece_to
  (try simp only [guard_merge, or_merge, and_merge, or_pick, and_pick, guard_or, guard_and]); simp only [to_ob]
  have e1 : IntKind.i64.wrap ((p.a : Int) + (p.d.length : Int)) = ((pTo p : Nat) : Int) := by
    rw [wrap_id (by have := hp.1; omega) (by have := hp.1; have := hp.2; omega)]; unfold pTo; omega
  simp only [go_sem, ↓reduceIte, reduceCtorEq, upd_ne, @back_new _ _ _ _ _ no_at, Nat.reduceAdd, Nat.reduceEqDiff, Nat.reduceMul, Nat.reduceSub, Nat.reduceLeDiff, Nat.reduceLT, Int.reduceToNat, Int.reduceLE, Int.reduceLT, Int.reduceEq, UInt8.reduceOfNat, pkLV, e1]
theorem ev_isNaN (a : Int) : S.ev (n + 1) id_cmp_isNaN_int [.int .i64 a] none = some (.bool false, none) := by
  rw [Sys.step hS.h_cmp_isNaN_int, F_cmp_isNaN_int_eq]
  unfold F_cmp_isNaN_int
  (try simp only [guard_merge, or_merge, and_merge, or_pick, and_pick, guard_or, guard_and]); simp only [to_ob]
  simp only [go_sem, ↓reduceIte, reduceCtorEq, upd_ne, @back_new _ _ _ _ _ no_at, Nat.reduceAdd, Nat.reduceEqDiff, Nat.reduceMul, Nat.reduceSub, Nat.reduceLeDiff, Nat.reduceLT, Int.reduceToNat, Int.reduceLE, Int.reduceLT, Int.reduceEq, UInt8.reduceOfNat, not_true_eq_false]
theorem ev_cmpI (a b : Int) : S.ev (n + 2) id_cmp_Compare_int [.int .i64 a, .int .i64 b] none = some (.int .i64 (cmpI a b), none) := by
  rw [Sys.step hS.h_cmp_Compare_int, F_cmp_Compare_int_eq]
  unfold F_cmp_Compare_int
  (try simp only [guard_merge, or_merge, and_merge, or_pick, and_pick, guard_or, guard_and]); simp only [to_ob]
  have h1 := ev_isNaN hS n a
  have h2 := ev_isNaN hS n b
  unfold cmpI
  by_cases c1 : a < b
  · simp only [go_sem, ↓reduceIte, reduceCtorEq, upd_ne, @back_new _ _ _ _ _ no_at, Nat.reduceAdd, Nat.reduceEqDiff, Nat.reduceMul, Nat.reduceSub, Nat.reduceLeDiff, Nat.reduceLT, Int.reduceToNat, Int.reduceLE, Int.reduceLT, Int.reduceEq, UInt8.reduceOfNat, h1, h2, c1]
  · by_cases c2 : b < a
    · simp only [go_sem, ↓reduceIte, reduceCtorEq, upd_ne, @back_new _ _ _ _ _ no_at, Nat.reduceAdd, Nat.reduceEqDiff, Nat.reduceMul, Nat.reduceSub, Nat.reduceLeDiff, Nat.reduceLT, Int.reduceToNat, Int.reduceLE, Int.reduceLT, Int.reduceEq, UInt8.reduceOfNat, h1, h2, c1, c2]
    · simp only [go_sem, ↓reduceIte, reduceCtorEq, upd_ne, @back_new _ _ _ _ _ no_at, Nat.reduceAdd, Nat.reduceEqDiff, Nat.reduceMul, Nat.reduceSub, Nat.reduceLeDiff, Nat.reduceLT, Int.reduceToNat, Int.reduceLE, Int.reduceLT, Int.reduceEq, UInt8.reduceOfNat, h1, h2, c1, c2]
theorem ev_or (a b : Int) : S.ev (n + 1) id_cmp_Or_int [.lst none [.int .i64 a, .int .i64 b]] none = some (.int .i64 (if a ≠ 0 then a else b), none) := by
  rw [Sys.step hS.h_cmp_Or_int, F_cmp_Or_int_eq]
  unfold F_cmp_Or_int
  (try simp only [guard_merge, or_merge, and_merge, or_pick, and_pick, guard_or, guard_and]); simp only [to_ob]
  simp only [go_sem, ↓reduceIte, reduceCtorEq, upd_ne, @back_new _ _ _ _ _ no_at, Nat.reduceAdd, Nat.reduceEqDiff, Nat.reduceMul, Nat.reduceSub, Nat.reduceLeDiff, Nat.reduceLT, Int.reduceToNat, Int.reduceLE, Int.reduceLT, Int.reduceEq, UInt8.reduceOfNat]
  have w0 : ((2 : Nat) : Int) = 2 := rfl
  have w1 : IntKind.i64.wrap (0 + 1) = 1 := rfl
  have w2 : IntKind.i64.wrap (1 + 1) = 2 := rfl
  by_cases c1 : a = 0
  · subst c1
    rw [ob_bind, whileW_next (a' := ([.int .i64 0, .int .i64 1], noSlots)) (by simp only [go_sem, ↓reduceIte, reduceCtorEq, upd_ne, @back_new _ _ _ _ _ no_at, Nat.reduceAdd, Nat.reduceEqDiff, Nat.reduceMul, Nat.reduceSub, Nat.reduceLeDiff, Nat.reduceLT, Int.reduceToNat, Int.reduceLE, Int.reduceLT, Int.reduceEq, UInt8.reduceOfNat, w0, w1]), ← ob_bind]
    by_cases c2 : b = 0
    · subst c2
      rw [ob_bind, whileW_next (a' := ([.int .i64 0, .int .i64 2], noSlots)) (by simp only [go_sem, ↓reduceIte, reduceCtorEq, upd_ne, @back_new _ _ _ _ _ no_at, Nat.reduceAdd, Nat.reduceEqDiff, Nat.reduceMul, Nat.reduceSub, Nat.reduceLeDiff, Nat.reduceLT, Int.reduceToNat, Int.reduceLE, Int.reduceLT, Int.reduceEq, UInt8.reduceOfNat, w0, w2]), ← ob_bind]
      rw [ob_bind, whileW_done (b := (.exit 0, [.int .i64 0, .int .i64 2], noSlots)) (by simp only [go_sem, ↓reduceIte, reduceCtorEq, upd_ne, @back_new _ _ _ _ _ no_at, Nat.reduceAdd, Nat.reduceEqDiff, Nat.reduceMul, Nat.reduceSub, Nat.reduceLeDiff, Nat.reduceLT, Int.reduceToNat, Int.reduceLE, Int.reduceLT, Int.reduceEq, UInt8.reduceOfNat, w0]), ← ob_bind]
      simp only [go_sem, ↓reduceIte, reduceCtorEq, upd_ne, @back_new _ _ _ _ _ no_at, Nat.reduceAdd, Nat.reduceEqDiff, Nat.reduceMul, Nat.reduceSub, Nat.reduceLeDiff, Nat.reduceLT, Int.reduceToNat, Int.reduceLE, Int.reduceLT, Int.reduceEq, UInt8.reduceOfNat, exIf, Ex.exit.injEq]
    · rw [ob_bind, whileW_done (b := (.ret, [.int .i64 b, .int .i64 1], noSlots)) (by simp only [go_sem, ↓reduceIte, reduceCtorEq, upd_ne, @back_new _ _ _ _ _ no_at, Nat.reduceAdd, Nat.reduceEqDiff, Nat.reduceMul, Nat.reduceSub, Nat.reduceLeDiff, Nat.reduceLT, Int.reduceToNat, Int.reduceLE, Int.reduceLT, Int.reduceEq, UInt8.reduceOfNat, w0, c2]), ← ob_bind]
      simp only [go_sem, ↓reduceIte, reduceCtorEq, upd_ne, @back_new _ _ _ _ _ no_at, Nat.reduceAdd, Nat.reduceEqDiff, Nat.reduceMul, Nat.reduceSub, Nat.reduceLeDiff, Nat.reduceLT, Int.reduceToNat, Int.reduceLE, Int.reduceLT, Int.reduceEq, UInt8.reduceOfNat, exIf]
  · rw [ob_bind, whileW_done (b := (.ret, [.int .i64 a, .int .i64 0], noSlots)) (by simp only [go_sem, ↓reduceIte, reduceCtorEq, upd_ne, @back_new _ _ _ _ _ no_at, Nat.reduceAdd, Nat.reduceEqDiff, Nat.reduceMul, Nat.reduceSub, Nat.reduceLeDiff, Nat.reduceLT, Int.reduceToNat, Int.reduceLE, Int.reduceLT, Int.reduceEq, UInt8.reduceOfNat, w0, c1]), ← ob_bind]
    simp only [go_sem, ↓reduceIte, reduceCtorEq, upd_ne, @back_new _ _ _ _ _ no_at, Nat.reduceAdd, Nat.reduceEqDiff, Nat.reduceMul, Nat.reduceSub, Nat.reduceLeDiff, Nat.reduceLT, Int.reduceToNat, Int.reduceLE, Int.reduceLT, Int.reduceEq, UInt8.reduceOfNat, exIf, c1]
theorem ev_cmp (p q : Pc) (hp : OkP p) (hq : OkP q) : S.ev (n + 3) id_frag_datagram_whole_1 [pkLV p, pkLV q] none = some (.int .i64 (cz p q), none) := by
  rw [Sys.step hS.h_frag_datagram_whole_1, F_frag_datagram_whole_1_eq]
  unfold F_frag_datagram_whole_1
  (try simp only [guard_merge, or_merge, and_merge, or_pick, and_pick, guard_or, guard_and]); simp only [to_ob]
  have h1 := ev_cmpI hS n p.a q.a
  have h2 := ev_cmpI hS n ((pTo p : Nat) : Int) ((pTo q : Nat) : Int)
  have h3 := ev_to hS (n + 1) p hp
  have h4 := ev_to hS (n + 1) q hq
  have h5 := ev_or hS (n + 1) (cmpI p.a q.a) (cmpI (pTo p) (pTo q))
  unfold cz
  simp only [pkLV] at h3 h4
  simp only [go_sem, ↓reduceIte, reduceCtorEq, upd_ne, @back_new _ _ _ _ _ no_at, Nat.reduceAdd, Nat.reduceEqDiff, Nat.reduceMul, Nat.reduceSub, Nat.reduceLeDiff, Nat.reduceLT, Int.reduceToNat, Int.reduceLE, Int.reduceLT, Int.reduceEq, UInt8.reduceOfNat, pkLV, h1, h2, h3, h4, h5]
end
end Go.Ev

namespace Go.Ev
set_option linter.unusedSimpArgs false
set_option linter.unusedVariables false
section
variable {α : Type} {k : α → Nat} {l l' l'' : List α} {a b c i j : Nat} {p q : α}
structure Re (a b : Nat) (l l' : List α) : Prop where
  perm : l'.Perm l
  out : ∀ i, i < a ∨ b ≤ i → l'[i]? = l[i]?
  inn : ∀ i, a ≤ i → i < b → ∃ j, a ≤ j ∧ j < b ∧ l'[i]? = l[j]?
theorem Re.refl (a b : Nat) (l : List α) : Re a b l l := ⟨.refl _, fun _ _ => rfl, fun i h1 h2 => ⟨i, h1, h2, rfl⟩⟩
theorem Re.len (h : Re a b l l') : l'.length = l.length := h.perm.length_eq
theorem Re.trans (h : Re a b l l') (h2 : Re a b l' l'') : Re a b l l'' :=
  ⟨h2.perm.trans h.perm, fun i hi => (h2.out i hi).trans (h.out i hi), fun i h3 h4 => by
    obtain ⟨j, j1, j2, j3⟩ := h2.inn i h3 h4
    obtain ⟨m, m1, m2, m3⟩ := h.inn j j1 j2
    exact ⟨m, m1, m2, j3.trans m3⟩⟩
theorem Re.wide {a' b' : Nat} (h : Re a b l l') (h1 : a' ≤ a) (h2 : b ≤ b') : Re a' b' l l' :=
  ⟨h.perm, fun i hi => h.out i (by omega), fun i h3 h4 => by
    by_cases hi : a ≤ i ∧ i < b
    · obtain ⟨j, j1, j2, j3⟩ := h.inn i hi.1 hi.2
      exact ⟨j, by omega, by omega, j3⟩
    · exact ⟨i, h3, h4, h.out i (by omega)⟩⟩
def sw (l : List α) (i j : Nat) (p q : α) : List α := (l.set i q).set j p
theorem sw_get (hi : l[i]? = some p) (hj : l[j]? = some q) (x : Nat) : (sw l i j p q)[x]? = if x = j then some p else if x = i then some q else l[x]? := by
  have h1 := (List.getElem?_eq_some_iff.1 hi).1
  have h2 := (List.getElem?_eq_some_iff.1 hj).1
  unfold sw
  rw [List.getElem?_set]
  by_cases e : j = x
  · subst e; simp [h2]
  · rw [if_neg e, if_neg (Ne.symm e), List.getElem?_set]
    by_cases e2 : i = x
    · subst e2; simp [h1]
    · rw [if_neg e2, if_neg (Ne.symm e2)]
theorem sw_re (hi : l[i]? = some p) (hj : l[j]? = some q) (h1 : a ≤ i) (h2 : i < b) (h3 : a ≤ j) (h4 : j < b) : Re a b l (sw l i j p q) := by
  have g := sw_get hi hj
  refine ⟨?_, fun x hx => ?_, fun x hx1 hx2 => ?_⟩
  · obtain ⟨z1, e1⟩ := List.getElem?_eq_some_iff.1 hi
    obtain ⟨z2, e2⟩ := List.getElem?_eq_some_iff.1 hj
    have := List.set_set_perm z1 z2
    rw [e1, e2] at this
    exact this
  · rw [g, if_neg (by omega), if_neg (by omega)]
  · rw [g]
    split
    · exact ⟨i, h1, h2, hi.symm⟩
    · split
      · exact ⟨j, h3, h4, hj.symm⟩
      · exact ⟨x, hx1, hx2, rfl⟩
def So (k : α → Nat) (a b : Nat) (l : List α) : Prop := ∀ i j p q, a ≤ i → i < j → j < b → l[i]? = some p → l[j]? = some q → k p ≤ k q
def Le (k : α → Nat) (a b c d : Nat) (l : List α) : Prop := ∀ i j p q, a ≤ i → i < b → c ≤ j → j < d → l[i]? = some p → l[j]? = some q → k p ≤ k q
theorem So.sub {a' b' : Nat} (h : So k a b l) (h1 : a ≤ a') (h2 : b' ≤ b) : So k a' b' l := fun i j p q e1 e2 e3 => h i j p q (by omega) e2 (by omega)
theorem So.one : So k a (a + 1) l := fun i j p q e1 e2 e3 => by omega
theorem So.none' (h : b ≤ a + 1) : So k a b l := fun i j p q e1 e2 e3 => by omega
theorem So.join {m : Nat} (h1 : So k a m l) (h2 : So k m b l) (h3 : Le k a m m b l) : So k a b l := fun i j p q e1 e2 e3 hp hq => by
  by_cases c1 : j < m
  · exact h1 i j p q e1 e2 c1 hp hq
  · by_cases c2 : m ≤ i
    · exact h2 i j p q c2 e2 e3 hp hq
    · exact h3 i j p q e1 (by omega) (by omega) e3 hp hq
theorem So.out (h : So k a b l) (hr : ∀ i, a ≤ i → i < b → l'[i]? = l[i]?) : So k a b l' := fun i j p q e1 e2 e3 hp hq =>
  h i j p q e1 e2 e3 (by rw [← hr i e1 (by omega)]; exact hp) (by rw [← hr j (by omega) e3]; exact hq)
theorem Le.re1 {c d : Nat} (h : Le k a b c d l) (hr : Re a b l l') (hd : b ≤ c ∨ d ≤ a) : Le k a b c d l' := fun i j p q e1 e2 e3 e4 hp hq => by
  obtain ⟨x, x1, x2, x3⟩ := hr.inn i e1 e2
  exact h x j p q x1 x2 e3 e4 (by rw [← x3]; exact hp) (by rw [← hr.out j (by omega)]; exact hq)
theorem Le.re2 {c d : Nat} (h : Le k a b c d l) (hr : Re c d l l') (hd : b ≤ c ∨ d ≤ a) : Le k a b c d l' := fun i j p q e1 e2 e3 e4 hp hq => by
  obtain ⟨x, x1, x2, x3⟩ := hr.inn j e3 e4
  exact h i x p q e1 e2 x1 x2 (by rw [← hr.out i (by omega)]; exact hp) (by rw [← x3]; exact hq)
def Rot (a m b : Nat) (l l' : List α) : Prop := Re a b l l' ∧ (∀ x, x < b - m → l'[a + x]? = l[m + x]?) ∧ ∀ x, x < m - a → l'[a + (b - m) + x]? = l[a + x]?
theorem merge_halves {m mid s e : Nat} (h1 : So k a m l) (h2 : So k m b l) (hs : a ≤ s) (hsm : s ≤ m) (hme : m ≤ e) (heb : e ≤ b) (hmid : s + (e - m) = mid)
    (c1 : ∀ p q, a < s → e < b → l[s - 1]? = some p → l[e]? = some q → k p ≤ k q) (c2 : ∀ p q, s < m → m < e → l[e - 1]? = some p → l[s]? = some q → k p ≤ k q) (hr : Rot s m e l l') :
    So k a s l' ∧ So k s mid l' ∧ So k mid e l' ∧ So k e b l' ∧ Le k a mid mid b l' := by
  obtain ⟨r0, r1, r2⟩ := hr
  have o1 : ∀ i, i < s → l'[i]? = l[i]? := fun i hi => r0.out i (.inl hi)
  have o2 : ∀ i, e ≤ i → l'[i]? = l[i]? := fun i hi => r0.out i (.inr hi)
  have o3 : ∀ i, s ≤ i → i < mid → l'[i]? = l[m + (i - s)]? := fun i q1 q2 => by have := r1 (i - s) (by omega); rwa [show s + (i - s) = i by omega] at this
  have o4 : ∀ i, mid ≤ i → i < e → l'[i]? = l[s + (i - mid)]? := fun i q1 q2 => by have := r2 (i - mid) (by omega); rwa [show s + (e - m) + (i - mid) = i by omega] at this
  refine ⟨fun i j p q e1 e2 e3 hp hq => ?_, fun i j p q e1 e2 e3 hp hq => ?_, fun i j p q e1 e2 e3 hp hq => ?_, fun i j p q e1 e2 e3 hp hq => ?_, fun i j p q e1 e2 e3 e4 hp hq => ?_⟩
  · rw [o1 i (by omega)] at hp; rw [o1 j (by omega)] at hq; exact h1 i j p q e1 e2 (by omega) hp hq
  · rw [o3 i (by omega) (by omega)] at hp; rw [o3 j (by omega) (by omega)] at hq; exact h2 _ _ p q (by omega) (by omega) (by omega) hp hq
  · rw [o4 i (by omega) (by omega)] at hp; rw [o4 j (by omega) (by omega)] at hq; exact h1 _ _ p q (by omega) (by omega) (by omega) hp hq
  · rw [o2 i (by omega)] at hp; rw [o2 j (by omega)] at hq; exact h2 i j p q (by omega) e2 (by omega) hp hq
  · -- what is at most, at its end
    have up1 : ∀ x y p q, a ≤ x → x ≤ y → y < m → l[x]? = some p → l[y]? = some q → k p ≤ k q := fun x y p q q1 q2 q3 hp hq => by
      rcases Nat.lt_or_ge x y with h | h
      · exact h1 x y p q q1 h q3 hp hq
      · obtain rfl : x = y := by omega
        rw [hp] at hq; cases hq; exact Nat.le_refl _
    have up2 : ∀ x y p q, m ≤ x → x ≤ y → y < b → l[x]? = some p → l[y]? = some q → k p ≤ k q := fun x y p q q1 q2 q3 hp hq => by
      rcases Nat.lt_or_ge x y with h | h
      · exact h2 x y p q q1 h q3 hp hq
      · obtain rfl : x = y := by omega
        rw [hp] at hq; cases hq; exact Nat.le_refl _
    have get : ∀ {x y : Nat} {q : α}, x ≤ y → l[y]? = some q → ∃ p, l[x]? = some p := fun {x y q} hxy hq => by
      have := (List.getElem?_eq_some_iff.1 hq).1
      exact ⟨l[x], by simp [show x < l.length by omega]⟩
    by_cases ci : i < s
    · rw [o1 i ci] at hp
      by_cases cj : j < e
      · rw [o4 j e3 cj] at hq
        exact up1 _ _ p q e1 (by omega) (by omega) hp hq
      · rw [o2 j (by omega)] at hq
        obtain ⟨u, hu⟩ := get (x := e) (by omega) hq
        obtain ⟨w, hw⟩ := get (x := s - 1) (by omega) hq
        exact Nat.le_trans (up1 i (s - 1) p w e1 (by omega) (by omega) hp hw) (Nat.le_trans (c1 w u (by omega) (by omega) hw hu) (up2 e j u q hme (by omega) e4 hu hq))
    · rw [o3 i (by omega) e2] at hp
      by_cases cj : j < e
      · rw [o4 j e3 cj] at hq
        obtain ⟨u, hu⟩ := get (x := s) (by omega) hq
        have hlt := (List.getElem?_eq_some_iff.1 hp).1
        by_cases ce : e ≤ l.length
        · have hw : l[e - 1]? = some (l[e - 1]'(by omega)) := by simp
          exact Nat.le_trans (up2 (m + (i - s)) (e - 1) p _ (by omega) (by omega) (by omega) hp hw) (Nat.le_trans (c2 _ u (by omega) (by omega) hw hu) (up1 s (s + (j - mid)) u q hs (by omega) (by omega) hu hq))
        · exfalso
          have h3 := r2 (j - mid) (by omega)
          have h4 := r0.len
          have h5 : l'[e - 1]? = none := List.getElem?_eq_none (by omega)
          have h6 := o4 (e - 1) (by omega) (by omega)
          rw [h5] at h6
          have h7 := (List.getElem?_eq_none_iff.1 h6.symm)
          have h8 : s + (e - 1 - mid) < m := by omega
          omega
      · rw [o2 j (by omega)] at hq
        exact up2 _ _ p q (by omega) (by omega) e4 hp hq
end
end Go.Ev
