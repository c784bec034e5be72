/- Part 5 of a proof: what the functions yield. It stands by itself; no condition. -/
import Derived.Test.YtbdkfdkmefebnaaE2
import Derived.Test.YtbdkfdkmefebnaaE4
namespace Go.Ev
set_option linter.unusedSimpArgs false
set_option linter.unusedVariables false
set_option maxRecDepth 4000
set_option maxHeartbeats 2000000
def sumAt : Nat → List UInt8 → Nat
  | _, [] => 0
  | p, c :: s => (if p % 2 = 0 then c.toNat * 256 else c.toNat) + sumAt (p + 1) s
theorem sumAt_append : ∀ (a b : List UInt8) (p : Nat), sumAt p (a ++ b) = sumAt p a + sumAt (p + a.length) b
  | [], b, p => by simp [sumAt]
  | c :: a, b, p => by
    simp only [List.cons_append, sumAt, sumAt_append a b (p + 1), List.length_cons]
    rw [show p + 1 + a.length = p + (a.length + 1) by omega]
    omega
theorem sumAt_le : ∀ (s : List UInt8) (p : Nat), sumAt p s ≤ 65280 * s.length
  | [], p => by simp [sumAt]
  | c :: s, p => by
    have := sumAt_le s (p + 1)
    have hc := c.toNat_lt
    simp only [sumAt, List.length_cons]
    split <;> omega
theorem sumAt_two : ∀ (s : List UInt8) (p : Nat), sumAt (p + 2) s = sumAt p s
  | [], p => rfl
  | c :: s, p => by
    simp only [sumAt]
    rw [show p + 2 + 1 = p + 1 + 2 by omega, sumAt_two s (p + 1), show (p + 2) % 2 = p % 2 by omega]
def ones (n : Nat) : Nat := if n = 0 then 0 else (n - 1) % 65535 + 1
theorem ones_le (n : Nat) : ones n ≤ 65535 := by unfold ones; split <;> omega
theorem ones_small {n : Nat} (h : n ≤ 65535) : ones n = n := by unfold ones; split <;> omega
theorem ones_step {n : Nat} (h : 65535 < n) : ones (n / 65536 + n % 65536) = ones n := by
  unfold ones
  rw [if_neg (by omega), if_neg (by omega)]
  omega
theorem ones_add (a b : Nat) : ones (ones a + b) = ones (a + b) := by
  unfold ones
  by_cases h : a = 0
  · subst h; simp
  · rw [if_neg h, if_neg (by omega), if_neg (by omega)]
    omega
theorem ones_zero {n : Nat} : ones n = 0 ↔ n = 0 := by unfold ones; split <;> omega
def wordsN : List UInt8 → List Nat
  | [] => []
  | [a] => [256 * a.toNat]
  | a :: b :: s => (256 * a.toNat + b.toNat) :: wordsN s
theorem wordsN_len : ∀ (s : List UInt8), (wordsN s).length = (s.length + 1) / 2
  | [] => rfl
  | [a] => by simp [wordsN]
  | a :: b :: s => by simp only [wordsN, List.length_cons, wordsN_len s]; omega
theorem wordsN_sum : ∀ (s : List UInt8), (wordsN s).sum = sumAt 0 s
  | [] => rfl
  | [a] => by simp [wordsN, sumAt]; omega
  | a :: b :: s => by
    simp only [wordsN, sumAt, List.sum_cons, wordsN_sum s]
    rw [show (0 + 1 + 1 : Nat) = 0 + 2 by rfl, sumAt_two]
    simp
    omega
theorem wordsN_le : ∀ (s : List UInt8), ∀ w ∈ wordsN s, w ≤ 65535
  | [], w, h => by simp [wordsN] at h
  | [a], w, h => by
    have := a.toNat_lt
    simp [wordsN] at h; omega
  | a :: b :: s, w, h => by
    have := a.toNat_lt
    have := b.toNat_lt
    simp only [wordsN, List.mem_cons] at h
    rcases h with h | h
    · omega
    · exact wordsN_le s w h
theorem wordsN_take : ∀ (s : List UInt8) (i : Nat) (a b : UInt8), s[2 * i]? = some a → s[2 * i + 1]? = some b → wordsN (s.take (2 * (i + 1))) = wordsN (s.take (2 * i)) ++ [256 * a.toNat + b.toNat]
  | [], i, a, b, h, _ => by simp at h
  | [c], 0, a, b, h, h2 => by simp at h2
  | [c], i + 1, a, b, h, _ => by simp at h
  | c :: d :: s, 0, a, b, h, h2 => by
    simp at h h2
    subst h h2
    rfl
  | c :: d :: s, i + 1, a, b, h, h2 => by
    have h' : s[2 * i]? = some a := by rw [← h, show 2 * (i + 1) = 2 * i + 1 + 1 by omega]; simp
    have h2' : s[2 * i + 1]? = some b := by rw [← h2, show 2 * (i + 1) + 1 = 2 * i + 1 + 1 + 1 by omega]; simp
    have ih := wordsN_take s i a b h' h2'
    rw [show 2 * (i + 1 + 1) = 2 * (i + 1) + 1 + 1 by omega, show 2 * (i + 1) = 2 * i + 1 + 1 by omega]
    simp only [List.take_succ_cons, wordsN, List.cons_append]
    rw [← ih]
    rfl
theorem wordsN_odd : ∀ (s : List UInt8), s.length % 2 = 1 → wordsN (s ++ [0]) = wordsN s
  | [], h => by simp at h
  | [a], h => by simp [wordsN]
  | a :: b :: s, h => by
    simp only [List.cons_append, wordsN]
    rw [wordsN_odd s (by simp only [List.length_cons] at h; omega)]
abbrev intsLV (l : List Nat) : List LV := l.map fun (w : Nat) => LV.int .i64 (w : Int)
theorem wAppend_tag {e by' d t g n sz : Nat} {sl : Slots} {l new : List LV} (hs : sl t = .tag g n sz) (hn : n = l.length) (hz : sz = e) (hl : (l.all fun v => decide (flatLen v = e)) = true) (hnew : (new.all fun v => decide (flatLen v = e)) = true) (hne : new ≠ []) (hb : (l.length + new.length) * by' ≤ 1099511627776) :
    wAppend e by' d sl (.lst (some (t, g)) l) (.lst none new) = some (.lst (some (t, g)) (l ++ new), upd sl t (.tag g (n + new.length) sz)) := by
  simp only [wAppend, newEls, hnew, if_true, Option.bind_some, hne, if_false, hs]
  rw [if_pos ⟨trivial, hn, hz, hl, hb⟩]
theorem ints_flat (l : List Nat) : ((intsLV l).all fun v => decide (flatLen v = 1)) = true := by
  rw [List.all_eq_true]
  intro v hv
  obtain ⟨w, _, rfl⟩ := List.mem_map.1 hv
  simp [flatLen]
def beB (n x : Nat) : List UInt8 := (List.range n).map fun i => UInt8.ofNat (x / 256 ^ (n - 1 - i))
theorem beB_len (n x : Nat) : (beB n x).length = n := by simp [beB]
theorem beB_get {n x i : Nat} (h : i < n) : (beB n x)[i]? = some (UInt8.ofNat (x / 256 ^ (n - 1 - i))) := by simp [beB, h]
theorem u8_wrap (y : Nat) : IntKind.u8.wrap (y : Int) = ((y % 256 : Nat) : Int) := by
  simp [IntKind.wrap, IntKind.bits, IntKind.signed]
theorem set_mid {b : List UInt8} {n i : Nat} {c : UInt8} (hb : b.length = n) (hi : i < n) (hc : b[i]? = some c) :
    (b.take i ++ List.replicate (n - i) 0).set i c = b.take (i + 1) ++ List.replicate (n - (i + 1)) 0 := by
  have e : List.replicate (n - i) (0 : UInt8) = 0 :: List.replicate (n - (i + 1)) 0 := by
    rw [show n - i = (n - (i + 1)) + 1 by omega, List.replicate_succ]
  rw [e, List.take_add_one, hc]
  have hl : (b.take i).length = i := by rw [List.length_take]; omega
  rw [List.set_append]
  rw [if_neg (by omega), hl]
  simp
def sumS (s : List UInt8) : Int := 65535 - (ones (sumAt 0 s) : Nat)
theorem sumS_le (s : List UInt8) : 0 ≤ sumS s ∧ sumS s ≤ 65535 := by
  have := ones_le (sumAt 0 s)
  unfold sumS
  omega
theorem ue_ag3 {c : Int} : LV.isAgg (faultLV c) = false := by unfold faultLV; exact Eq.trans rfl rfl
def fE (c : Int) : LV := if c = 0 then .nili else faultLV c
theorem fe_ag {c : Int} : LV.isAgg (fE c) = false := by unfold fE faultLV; split <;> exact Eq.trans rfl rfl
theorem fe_st {c : Int} : stor (fE c) = true := by unfold fE faultLV; split <;> exact Eq.trans rfl rfl
theorem fe_pl {c : Int} : plainRes (fE c) = true := by unfold fE faultLV; split <;> exact Eq.trans rfl rfl
theorem fe_fl {c : Int} : flatLen (fE c) = 1 := by unfold fE faultLV; split <;> simp only [flatLen]
theorem fe_ps {c : Int} : psl (fE c) = some (fE c) := by unfold fE faultLV; split <;> simp only [psl]
theorem fe_sv {c : Int} {sl : Slots} : sealV sl (fE c) = some (fE c) := by unfold fE faultLV; split <;> simp only [sealV, psl]
theorem fe_ov {c : Int} {sl : Slots} : outV none sl (fE c) = some (fE c) := by unfold fE faultLV; split <;> simp only [outV, sealV, psl]
attribute [go_sem ↓] fe_ag fe_st fe_pl fe_fl fe_ps fe_sv fe_ov
theorem toBytes_byteLV : ∀ l : List UInt8, toBytes (l.map byteLV) = some l
  | [] => by simp only [List.map_nil, toBytes]
  | a :: l => by
    show toBytes (.int .u8 (a.toNat : Int) :: l.map byteLV) = _
    rw [c_tb1, toBytes_byteLV l]
    simp [ob]
theorem lt1 {x : Int} (h : 0 ≤ x) (h1 : x < 256) : 0 ≤ x ∧ x < ((256 ^ 1 : Nat) : Int) := ⟨h, h1⟩
theorem lt2 {x : Int} (h : 0 ≤ x) (h1 : x < 65536) : 0 ≤ x ∧ x < ((256 ^ 2 : Nat) : Int) := ⟨h, h1⟩
theorem get_def {s : List UInt8} {i : Nat} (h : i < s.length) : s[i]? = some (s.getD i 0) := by
  rw [List.getD_eq_getElem?_getD, List.getElem?_eq_getElem h]; rfl
abbrev w16 (a b : UInt8) : Nat := 256 * a.toNat + b.toNat
theorem w16_or (a b : UInt8) : bitsOf .or .i64 (((a.toNat * 256 : Nat)) : Int) (b.toNat : Int) = ((w16 a b : Nat) : Int) := by
  have ha := a.toNat_lt
  have hb := b.toNat_lt
  rw [bits_or_nat (by simp [IntKind.max, IntKind.signed, IntKind.bits]; omega) (by simp [IntKind.max, IntKind.signed, IntKind.bits]; omega)]
  congr 1
  show _ = 256 * a.toNat + b.toNat
  rw [show a.toNat * 256 = a.toNat <<< 8 by rw [Nat.shiftLeft_eq], ← Nat.shiftLeft_add_eq_or_of_lt hb, Nat.shiftLeft_eq]
  simp only [Nat.reducePow]
  omega
def wAt (s : List UInt8) (i : Nat) : Nat := w16 (s.getD i 0) (s.getD (i + 1) 0)
theorem wAt_le (s : List UInt8) (i : Nat) : wAt s i ≤ 65535 := by
  have := (s.getD i 0).toNat_lt; have := (s.getD (i + 1) 0).toNat_lt
  unfold wAt w16; omega
def bAt (s : List UInt8) (i : Nat) : Nat := (s.getD i 0).toNat
theorem bAt_le (s : List UInt8) (i : Nat) : bAt s i ≤ 255 := by have := (s.getD i 0).toNat_lt; unfold bAt; omega
theorem e_cBslM {R : Type} {m d : Nat} {ps : List (Nat × LV)} {sl : Slots} {K2 : LV × Slots → Option R} : ob (cBslM m ps d sl) K2 = ob (putParts (.bytes (List.replicate m 0)) ps) fun v => ob (asBytes v) fun b => ob (cBytes b d sl) K2 := by
  unfold cBslM
  cases putParts (.bytes (List.replicate m 0)) ps with
  | none => rfl
  | some v => cases v <;> rfl
theorem cBytes_eq {R : Type} {b : List UInt8} {d : Nat} {K2 : LV × Slots → Option R} (h : b.length ≤ 1099511627776) : ob (cBytes b d noSlots) K2 = K2 (.arr d 1 [] 0 0 b.length, upd noSlots d (.obj 1 (.bytes b))) := by
  simp only [cBytes, mkObj, no_at]
  rfl
theorem wApp_arr {d t g : Nat} {sl : Slots} {b s : List UInt8} (hb : b.length + s.length ≤ 1099511627776) :
    wAppend 1 1 d (upd sl t (.obj g (.bytes b))) (.arr t g [] 0 0 b.length) (.lst none (s.map byteLV)) = some (.arr t (g + 1) [] 0 0 (b.length + s.length), upd (upd sl t (.obj g (.bytes b))) t (.obj (g + 1) (.bytes (b ++ s)))) := by
  have h1 : ((s.map byteLV).all fun v => decide (flatLen v = 1)) = true := by
    rw [List.all_eq_true]; intro v hv; obtain ⟨w, _, rfl⟩ := List.mem_map.1 hv; simp [byteLV, flatLen]
  have h2 : ((s.map byteLV).all okByte) = true := by
    rw [List.all_eq_true]; intro v hv; obtain ⟨w, _, rfl⟩ := List.mem_map.1 hv
    have := w.toNat_lt
    simp [byteLV, okByte]; omega
  simp only [wAppend, newEls, h1, if_true, Option.bind_some, upd_same]
  rw [if_pos ⟨trivial, trivial, trivial, trivial, by simpa using hb, h2⟩, toBytes_byteLV]
  rfl
theorem wApp_str {d t g : Nat} {sl : Slots} {b s : List UInt8} (hb : b.length + s.length ≤ 1099511627776) :
    wAppend 1 1 d (upd sl t (.obj g (.bytes b))) (.arr t g [] 0 0 b.length) (.str s) = some (.arr t (g + 1) [] 0 0 (b.length + s.length), upd (upd sl t (.obj g (.bytes b))) t (.obj (g + 1) (.bytes (b ++ s)))) := by
  have h2 : ((s.map byteLV).all okByte) = true := by
    rw [List.all_eq_true]; intro v hv; obtain ⟨w, _, rfl⟩ := List.mem_map.1 hv
    have := w.toNat_lt
    simp [byteLV, okByte]; omega
  simp only [wAppend, newEls, if_true, Option.bind_some, upd_same]
  rw [if_pos ⟨trivial, trivial, trivial, trivial, by simpa using hb, h2⟩, toBytes_byteLV]
  rfl
theorem u8w (x : Nat) : IntKind.u8.wrap (x : Int) = ((UInt8.ofNat x).toNat : Int) := by rw [u8_wrap, UInt8.toNat_ofNat']
theorem u8_ofNat_mod (x : Nat) : UInt8.ofNat (x % 256) = UInt8.ofNat x := by apply UInt8.toNat_inj.1; simp
theorem u8_lt (c : UInt8) : (c.toNat : Int) < 256 := by have := c.toNat_lt; omega
theorem beB1 (x : Nat) : beB 1 x = [UInt8.ofNat x] := by simp [beB, List.range_succ]
theorem beB2 (x : Nat) : beB 2 x = [UInt8.ofNat (x / 256), UInt8.ofNat x] := by simp [beB, List.range_succ]
theorem div256 {x : Nat} (h : x ≤ 1000000) : IntKind.i64.wrap (Int.tdiv (x : Int) 256) = ((x / 256 : Nat) : Int) := by
  rw [show Int.tdiv (x : Int) 256 = ((x / 256 : Nat) : Int) from rfl, wrap_id (by omega) (by omega)]
theorem mod256 (x : Nat) : Int.tmod (x : Int) 256 = ((x % 256 : Nat) : Int) := rfl
theorem sum_zeros {h r : List UInt8} (hh : h.length % 2 = 0) : sumAt 0 (h ++ (0 :: 0 :: r)) = sumAt 0 (h ++ r) := by
  simp only [sumAt_append, sumAt, UInt8.toNat_zero]
  rw [show 0 + h.length + 1 + 1 = 0 + h.length + 2 by omega, sumAt_two]
  split <;> split <;> omega
theorem w16_beB {x : Nat} (h : x < 65536) : w16 (UInt8.ofNat (x / 256)) (UInt8.ofNat x) = x := by
  simp only [w16, UInt8.toNat_ofNat']; omega
theorem flip_tab : ∀ c : Fin 256, ∀ j : Fin 8, c.val ^^^ 2 ^ j.val = c.val + 2 ^ j.val ∨ (c.val ^^^ 2 ^ j.val) + 2 ^ j.val = c.val := by
  decide +kernel
theorem flip_nat {c j : Nat} (hc : c < 256) (hj : j < 8) : c ^^^ 2 ^ j = c + 2 ^ j ∨ (c ^^^ 2 ^ j) + 2 ^ j = c := flip_tab ⟨c, hc⟩ ⟨j, hj⟩
theorem ones_full {n : Nat} : ones n = 65535 ↔ 0 < n ∧ n % 65535 = 0 := by unfold ones; split <;> omega
theorem right_of {t x : Nat} (hx : x = if 65535 - ones t = 0 then 65535 else 65535 - ones t) : ones (t + x) = 65535 := by
  have h1 := ones_le t
  rw [← ones_add, ones_full]
  split at hx <;> omega
theorem right_of0 {t : Nat} : ones (t + (65535 - ones t)) = 65535 ∨ t = 0 ∧ False := by
  left
  have h1 := ones_le t
  rw [← ones_add, ones_full]
  omega
theorem sumAt_set : ∀ (s : List UInt8) (p k : Nat) (c d : UInt8), s[k]? = some c → sumAt p (s.set k d) + (if (p + k) % 2 = 0 then c.toNat * 256 else c.toNat) = sumAt p s + (if (p + k) % 2 = 0 then d.toNat * 256 else d.toNat)
  | [], p, k, c, d, h => by simp at h
  | a :: s, p, 0, c, d, h => by
    simp at h; subst h
    simp only [List.set_cons_zero, sumAt, Nat.add_zero]
    omega
  | a :: s, p, k + 1, c, d, h => by
    have := sumAt_set s (p + 1) k c d (by simpa using h)
    simp only [List.set_cons_succ, sumAt]
    rw [show p + 1 + k = p + (k + 1) by omega] at this
    omega
theorem pow_not {j m : Nat} (hj : j < 8) (hm : m = 2 ^ j * 256 ∨ m = 2 ^ j) : 0 < m ∧ m < 65535 := by
  have h1 : 0 < 2 ^ j := Nat.two_pow_pos j
  have h2 : 2 ^ j ≤ 2 ^ 7 := Nat.pow_le_pow_right (by decide) (by omega)
  have h3 : (2 : Nat) ^ 7 = 128 := by decide
  omega
theorem flip_told {s : List UInt8} {p k j : Nat} {c d : UInt8} (hk : s[k]? = some c) (hj : j < 8) (hd : d.toNat = c.toNat ^^^ 2 ^ j) (ho : ones (sumAt p s) = 65535) : ones (sumAt p (s.set k d)) ≠ 65535 := by
  have h1 := sumAt_set s p k c d hk
  have h2 := flip_nat c.toNat_lt hj
  rw [← hd] at h2
  have ho := ones_full.1 ho
  intro h
  have h := ones_full.1 h
  have h3 : 0 < 2 ^ j := Nat.two_pow_pos j
  have h4 : 2 ^ j ≤ 2 ^ 7 := Nat.pow_le_pow_right (by decide) (by omega)
  have h5 : (2 : Nat) ^ 7 = 128 := by decide
  generalize 2 ^ j = m at *
  split at h1 <;> omega
theorem sumS_zero {s : List UInt8} : sumS s = 0 ↔ ones (sumAt 0 s) = 65535 := by unfold sumS; omega
theorem bAt0 {c : UInt8} {l : List UInt8} : bAt (c :: l) 0 = c.toNat := Eq.trans rfl rfl
theorem bAts {c : UInt8} {l : List UInt8} {i : Nat} : bAt (c :: l) (i + 1) = bAt l i := by simp [bAt]
theorem wAt0 {c d : UInt8} {l : List UInt8} : wAt (c :: d :: l) 0 = w16 c d := Eq.trans rfl rfl
theorem wAts {c : UInt8} {l : List UInt8} {i : Nat} : wAt (c :: l) (i + 1) = wAt l i := by simp [wAt]
theorem w16_hi (a b : UInt8) : UInt8.ofNat (w16 a b / 256) = a := by
  apply UInt8.toNat_inj.1
  have := a.toNat_lt; have := b.toNat_lt
  simp only [UInt8.toNat_ofNat', w16]; omega
theorem w16_lo (a b : UInt8) : UInt8.ofNat (w16 a b) = b := by
  apply UInt8.toNat_inj.1
  have := a.toNat_lt; have := b.toNat_lt
  simp only [UInt8.toNat_ofNat', w16]; omega
theorem len_cons {k : Nat} {s : List UInt8} (h : k + 1 ≤ s.length) : ∃ a t, s = a :: t ∧ k ≤ t.length := by
  cases s with
  | nil => simp at h
  | cons a t => exact ⟨a, t, rfl, by simpa using h⟩
theorem nat_of {x : Int} (h : 0 ≤ x) : ∃ y : Nat, x = (y : Int) := Int.eq_ofNat_of_zero_le h
end Go.Ev

namespace Go.Ev
set_option linter.unusedSimpArgs false
set_option linter.unusedVariables false
set_option maxRecDepth 4000
set_option maxHeartbeats 2000000
section
variable {S : Sys} (hS : Has S) (n : Nat)
include hS
theorem ev_fold (m : Nat) (hm : m ≤ 9223372036854775807) : S.ev (n + 1) id_sum_fold [.int .i64 (m : Int)] none = some (.int .i64 (ones m : Nat), none) := by
  rw [Sys.step hS.h_sum_fold, F_sum_fold_eq]
  unfold F_sum_fold
  (try simp only [guard_merge, or_merge, and_merge, or_pick, and_pick, guard_or, guard_and]); simp only [to_ob]
  refine while_rule (fun k q => ∃ x : Nat, q = ([.int .i64 (x : Int)], noSlots) ∧ k = x ∧ ones x = ones m ∧ x ≤ 9223372036854775807) m ⟨m, rfl, rfl, rfl, hm⟩ ?_
  rintro k q ⟨x, rfl, rfl, hx, hb⟩
  simp only [go_sem, ↓reduceIte, reduceCtorEq, upd_ne, back_new (no_at), Nat.reduceAdd, Nat.reduceEqDiff, Nat.reduceMul, Nat.reduceSub, Nat.reduceLeDiff, Nat.reduceLT, Int.reduceToNat, Int.reduceLE, Int.reduceLT, Int.reduceEq, UInt8.reduceOfNat]
  refine nxt_ite (fun h => ?_) (fun h => ?_)
  · have e1 : bitsOf .and .i64 (k : Int) 65535 = ((k % 65536 : Nat) : Int) := by
      rw [show (65535 : Int) = ((2 ^ 16 - 1 : Nat) : Int) from rfl, bits_mask 16 (by omega) (by simp [IntKind.max, IntKind.signed, IntKind.bits]; omega) (by decide)]
      rfl
    have e2 : Int.fdiv (k : Int) (2 ^ min 16 64) = ((k / 65536 : Nat) : Int) := by
      rw [show min 16 64 = 16 from rfl, Int.fdiv_eq_ediv_of_nonneg _ (by decide)]
      rfl
    have e3 : IntKind.i64.wrap (((k / 65536 : Nat) : Int) + ((k % 65536 : Nat) : Int)) = ((k / 65536 + k % 65536 : Nat) : Int) := by
      rw [wrap_id (by omega) (by omega)]; omega
    have hk : 65535 < k := by omega
    simp only [go_sem, ↓reduceIte, reduceCtorEq, upd_ne, back_new (no_at), Nat.reduceAdd, Nat.reduceEqDiff, Nat.reduceMul, Nat.reduceSub, Nat.reduceLeDiff, Nat.reduceLT, Int.reduceToNat, Int.reduceLE, Int.reduceLT, Int.reduceEq, UInt8.reduceOfNat, e1, e2, e3]
    exact ⟨_, by omega, _, rfl, rfl, by rw [ones_step hk, hx], by omega⟩
  · have hk : k ≤ 65535 := by omega
    simp only [go_sem, ↓reduceIte, reduceCtorEq, upd_ne, back_new (no_at), Nat.reduceAdd, Nat.reduceEqDiff, Nat.reduceMul, Nat.reduceSub, Nat.reduceLeDiff, Nat.reduceLT, Int.reduceToNat, Int.reduceLE, Int.reduceLT, Int.reduceEq, UInt8.reduceOfNat, Nxt, exIf]
    rw [← hx, ones_small hk]
theorem ev_add (m p : Nat) (s : List UInt8) (hb : m + 65280 * s.length ≤ 9223372036854775807) (hp : p + s.length ≤ 9223372036854775806) :
    S.ev (n + 1) id_sum_add [.int .i64 (m : Int), .int .i64 (p : Int), .str s, .int .u8 0] none = some (.int .i64 (m + sumAt p s : Nat), none) := by
  rw [Sys.step hS.h_sum_add, F_sum_add_eq]
  unfold F_sum_add
  (try simp only [guard_merge, or_merge, and_merge, or_pick, and_pick, guard_or, guard_and]); simp only [to_ob]
  simp only [go_sem, ↓reduceIte, reduceCtorEq, upd_ne, back_new (no_at), Nat.reduceAdd, Nat.reduceEqDiff, Nat.reduceMul, Nat.reduceSub, Nat.reduceLeDiff, Nat.reduceLT, Int.reduceToNat, Int.reduceLE, Int.reduceLT, Int.reduceEq, UInt8.reduceOfNat]
  refine while_rule (fun k q => ∃ x i : Nat, q = ([.int .i64 (x : Int), .int .i64 (i : Int)], noSlots) ∧ i + k = s.length ∧ x + sumAt (p + i) (s.drop i) = m + sumAt p s) s.length ⟨m, 0, rfl, by simp, by simp⟩ ?_
  rintro k q ⟨x, i, rfl, hi, hx⟩
  have hle := sumAt_le s p
  simp only [go_sem, ↓reduceIte, reduceCtorEq, upd_ne, back_new (no_at), Nat.reduceAdd, Nat.reduceEqDiff, Nat.reduceMul, Nat.reduceSub, Nat.reduceLeDiff, Nat.reduceLT, Int.reduceToNat, Int.reduceLE, Int.reduceLT, Int.reduceEq, UInt8.reduceOfNat]
  refine nxt_ite (fun h => ?_) (fun h => ?_)
  · have hlt : i < s.length := by omega
    obtain ⟨c, hc⟩ : ∃ c, s[i]? = some c := ⟨s[i], by simp [hlt]⟩
    have hd : s.drop i = c :: s.drop (i + 1) := by
      rw [List.drop_eq_getElem_cons hlt]; congr 1; simpa [hlt] using hc
    have hcl := c.toNat_lt
    rw [hd] at hx
    simp only [sumAt] at hx
    have e0 : bitsOf .xor .u8 (c.toNat : Int) 0 = (c.toNat : Int) := by
      rw [show (0 : Int) = ((0 : Nat) : Int) from rfl, bits_xor_nat (by simp [IntKind.max, IntKind.signed, IntKind.bits]; omega) (by simp [IntKind.max, IntKind.signed, IntKind.bits])]
      simp
    have e1 : IntKind.i64.wrap (c.toNat : Int) = (c.toNat : Int) := wrap_id (by omega) (by omega)
    have e2 : IntKind.i64.wrap ((p : Int) + (i : Int)) = ((p + i : Nat) : Int) := by rw [wrap_id (by omega) (by omega)]; omega
    have e3 : Int.tmod ((p + i : Nat) : Int) 2 = (((p + i) % 2 : Nat) : Int) := by
      rw [Int.tmod_eq_emod_of_nonneg (by omega)]; omega
    have e4 : IntKind.i64.wrap ((c.toNat : Int) * 2 ^ min 8 64) = ((c.toNat * 256 : Nat) : Int) := by
      rw [show min 8 64 = 8 from rfl, wrap_id (by omega) (by omega)]; omega
    have e6 : IntKind.i64.wrap ((i : Int) + 1) = ((i + 1 : Nat) : Int) := by rw [wrap_id (by omega) (by omega)]; omega
    simp only [go_sem, ↓reduceIte, reduceCtorEq, upd_ne, back_new (no_at), Nat.reduceAdd, Nat.reduceEqDiff, Nat.reduceMul, Nat.reduceSub, Nat.reduceLeDiff, Nat.reduceLT, Int.reduceToNat, Int.reduceLE, Int.reduceLT, Int.reduceEq, UInt8.reduceOfNat, List.getElem?_map, Int.toNat_natCast, hc, e0, e1, e2, e3, e4, e6]
    by_cases hpar : (p + i) % 2 = 0
    · rw [if_pos hpar] at hx
      have e5 : IntKind.i64.wrap ((x : Int) + ((c.toNat * 256 : Nat) : Int)) = ((x + c.toNat * 256 : Nat) : Int) := by
        rw [wrap_id (by omega) (by omega)]; omega
      have hq : (((p + i) % 2 : Nat) : Int) = 0 := by omega
      simp only [go_sem, ↓reduceIte, reduceCtorEq, upd_ne, back_new (no_at), Nat.reduceAdd, Nat.reduceEqDiff, Nat.reduceMul, Nat.reduceSub, Nat.reduceLeDiff, Nat.reduceLT, Int.reduceToNat, Int.reduceLE, Int.reduceLT, Int.reduceEq, UInt8.reduceOfNat, hq, e5]
      exact ⟨k - 1, by omega, _, i + 1, rfl, by omega, by rw [show p + (i + 1) = p + i + 1 by omega]; omega⟩
    · rw [if_neg hpar] at hx
      have e5 : IntKind.i64.wrap ((x : Int) + (c.toNat : Int)) = ((x + c.toNat : Nat) : Int) := by
        rw [wrap_id (by omega) (by omega)]; omega
      have hq : ¬ (((p + i) % 2 : Nat) : Int) = 0 := by omega
      simp only [go_sem, ↓reduceIte, reduceCtorEq, upd_ne, back_new (no_at), Nat.reduceAdd, Nat.reduceEqDiff, Nat.reduceMul, Nat.reduceSub, Nat.reduceLeDiff, Nat.reduceLT, Int.reduceToNat, Int.reduceLE, Int.reduceLT, Int.reduceEq, UInt8.reduceOfNat, hq, e5]
      exact ⟨k - 1, by omega, _, i + 1, rfl, by omega, by rw [show p + (i + 1) = p + i + 1 by omega]; omega⟩
  · rw [List.drop_eq_nil_of_le (by omega)] at hx
    simp only [sumAt, Nat.add_zero] at hx
    simp only [go_sem, ↓reduceIte, reduceCtorEq, upd_ne, back_new (no_at), Nat.reduceAdd, Nat.reduceEqDiff, Nat.reduceMul, Nat.reduceSub, Nat.reduceLeDiff, Nat.reduceLT, Int.reduceToNat, Int.reduceLE, Int.reduceLT, Int.reduceEq, UInt8.reduceOfNat, Nxt, exIf, hx]
theorem ev_Of (ps : List (List UInt8)) (hl : ps.length ≤ 1000) (ht : ps.flatten.length ≤ 140737488351232) : S.ev (n + 2) id_sum_Of [.lst none (ps.map .str)] none = some (.int .i64 (65535 - (ones (sumAt 0 ps.flatten) : Nat)), none) := by
  rw [Sys.step hS.h_sum_Of, F_sum_Of_eq]
  unfold F_sum_Of
  (try simp only [guard_merge, or_merge, and_merge, or_pick, and_pick, guard_or, guard_and]); simp only [to_ob]
  simp only [go_sem, ↓reduceIte, reduceCtorEq, upd_ne, back_new (no_at), Nat.reduceAdd, Nat.reduceEqDiff, Nat.reduceMul, Nat.reduceSub, Nat.reduceLeDiff, Nat.reduceLT, Int.reduceToNat, Int.reduceLE, Int.reduceLT, Int.reduceEq, UInt8.reduceOfNat, List.length_map]
  refine while_rule (fun k q => ∃ i : Nat, q = ([.int .i64 (ones (sumAt 0 (ps.take i).flatten) : Nat), .int .i64 ((ps.take i).flatten.length : Nat), .int .i64 (i : Int)], noSlots) ∧ i + k = ps.length) ps.length ⟨0, by simp [ones, sumAt], by simp⟩ ?_
  rintro k q ⟨i, rfl, hi⟩
  simp only [go_sem, ↓reduceIte, reduceCtorEq, upd_ne, back_new (no_at), Nat.reduceAdd, Nat.reduceEqDiff, Nat.reduceMul, Nat.reduceSub, Nat.reduceLeDiff, Nat.reduceLT, Int.reduceToNat, Int.reduceLE, Int.reduceLT, Int.reduceEq, UInt8.reduceOfNat]
  refine nxt_ite (fun h => ?_) (fun h => ?_)
  · have hlt : i < ps.length := by omega
    obtain ⟨s, hs⟩ : ∃ s, ps[i]? = some s := ⟨ps[i], by simp [hlt]⟩
    have htk : ps.take (i + 1) = ps.take i ++ [s] := by
      rw [List.take_add_one, hs]; rfl
    have hfl : (ps.take (i + 1)).flatten = (ps.take i).flatten ++ s := by rw [htk]; simp
    have hle : ((ps.take i).flatten ++ s).length ≤ 140737488351232 := by
      rw [← hfl]
      refine Nat.le_trans ?_ ht
      conv => rhs; rw [← List.take_append_drop (i + 1) ps, List.flatten_append]
      simp
    rw [List.length_append] at hle
    generalize (ps.take i).flatten = u at *
    have ho := ones_le (sumAt 0 u)
    have hsl := sumAt_le s u.length
    have h1 := ev_add hS n (ones (sumAt 0 u)) u.length s (by omega) (by omega)
    have h2 := ev_fold hS n (ones (sumAt 0 u) + sumAt u.length s) (by omega)
    have e1 : IntKind.i64.wrap ((u.length : Int) + (s.length : Int)) = ((u ++ s).length : Nat) := by
      rw [wrap_id (by omega) (by omega), List.length_append]; omega
    have e2 : IntKind.i64.wrap ((i : Int) + 1) = ((i + 1 : Nat) : Int) := by rw [wrap_id (by omega) (by omega)]; omega
    rw [ones_add, show sumAt 0 u + sumAt u.length s = sumAt 0 (u ++ s) by rw [sumAt_append]; simp] at h2
    simp only [go_sem, ↓reduceIte, reduceCtorEq, upd_ne, back_new (no_at), Nat.reduceAdd, Nat.reduceEqDiff, Nat.reduceMul, Nat.reduceSub, Nat.reduceLeDiff, Nat.reduceLT, Int.reduceToNat, Int.reduceLE, Int.reduceLT, Int.reduceEq, UInt8.reduceOfNat, List.getElem?_map, Int.toNat_natCast, hs, h1, h2, e1, e2]
    exact ⟨k - 1, by omega, i + 1, by rw [hfl], by omega⟩
  · rw [List.take_of_length_le (by omega)]
    have ho := ones_le (sumAt 0 ps.flatten)
    have e1 : IntKind.i64.wrap (65535 - ((ones (sumAt 0 ps.flatten) : Nat) : Int)) = 65535 - ((ones (sumAt 0 ps.flatten) : Nat) : Int) := wrap_id (by omega) (by omega)
    simp only [go_sem, ↓reduceIte, reduceCtorEq, upd_ne, back_new (no_at), Nat.reduceAdd, Nat.reduceEqDiff, Nat.reduceMul, Nat.reduceSub, Nat.reduceLeDiff, Nat.reduceLT, Int.reduceToNat, Int.reduceLE, Int.reduceLT, Int.reduceEq, UInt8.reduceOfNat, Nxt, exIf, e1]
end
end Go.Ev

namespace Go.Ev
set_option linter.unusedSimpArgs false
set_option linter.unusedVariables false
set_option maxRecDepth 4000
set_option maxHeartbeats 2000000
def bigR (x : Int) (m : Nat) : LV := if 0 ≤ x ∧ x < ((256 ^ m : Nat) : Int) then .tup [.str (beB m x.toNat), .nili] else .tup [.str [], faultLV 13]
section
variable {S : Sys} (hS : Has S) (n : Nat)
include hS
theorem ev_Big (x : Int) (m : Nat) (hm : m = 1 ∨ m = 2 ∨ m = 4) (hx : I64 x) : S.ev (n + 1) id_num_Big [.int .i64 x, .int .i64 (m : Int)] none = some (bigR x m, none) := by
  rw [Sys.step hS.h_num_Big, F_num_Big_eq]
  unfold F_num_Big
  (try simp only [guard_merge, or_merge, and_merge, or_pick, and_pick, guard_or, guard_and]); simp only [to_ob]
  have f1 : ¬ ((¬ (m : Int) = 1 ∧ ¬ (m : Int) = 2) ∧ ¬ (m : Int) = 4) := by omega
  have e1 : IntKind.i64.wrap (8 * (m : Int)) = ((8 * m : Nat) : Int) := by rw [wrap_id (by omega) (by omega)]; omega
  have e2 : IntKind.i64.wrap (1 * 2 ^ min (8 * m) 64) = ((256 ^ m : Nat) : Int) := by
    rcases hm with rfl | rfl | rfl <;> rfl
  have f2 : ¬ ((8 * m : Nat) : Int) < 0 := by omega
  unfold bigR
  by_cases c : 0 ≤ x ∧ x < ((256 ^ m : Nat) : Int)
  · have c' : ¬ (x < 0 ∨ ((256 ^ m : Nat) : Int) ≤ x) := by omega
    rw [if_pos c]
    obtain ⟨y, rfl⟩ := Int.eq_ofNat_of_zero_le c.1
    have hm4 : m ≤ 4 := by omega
    have hy : (y : Int) ≤ 9223372036854775807 := hx.2
    have f3 : (m : Int) ≤ 1099511627776 := by omega
    have f4 : (0 : Int) ≤ (m : Int) := by omega
    simp only [go_sem, ↓reduceIte, reduceCtorEq, upd_ne, back_new (no_at), Nat.reduceAdd, Nat.reduceEqDiff, Nat.reduceMul, Nat.reduceSub, Nat.reduceLeDiff, Nat.reduceLT, Int.reduceToNat, Int.reduceLE, Int.reduceLT, Int.reduceEq, UInt8.reduceOfNat, f1, e1, e2, f2, c', f3, f4, Int.le_refl, List.length_replicate]
    refine while_rule (fun k q => ∃ i : Nat, q = ([.int .i64 (i : Int)], upd noSlots 36 (.obj 1 (.bytes ((beB m y).take i ++ List.replicate (m - i) 0)))) ∧ i + k = m) m ⟨0, by simp, by simp⟩ ?_
    rintro k q ⟨i, rfl, hi⟩
    simp only [go_sem, ↓reduceIte, reduceCtorEq, upd_ne, back_new (no_at), Nat.reduceAdd, Nat.reduceEqDiff, Nat.reduceMul, Nat.reduceSub, Nat.reduceLeDiff, Nat.reduceLT, Int.reduceToNat, Int.reduceLE, Int.reduceLT, Int.reduceEq, UInt8.reduceOfNat]
    refine nxt_ite (fun h => ?_) (fun h => ?_)
    · have hlt : i < m := by omega
      have g1 : IntKind.i64.wrap ((m : Int) - 1) = ((m - 1 : Nat) : Int) := by rw [wrap_id (by omega) (by omega)]; omega
      have g2 : IntKind.i64.wrap (((m - 1 : Nat) : Int) - (i : Int)) = ((m - 1 - i : Nat) : Int) := by rw [wrap_id (by omega) (by omega)]; omega
      have g3 : IntKind.i64.wrap (8 * ((m - 1 - i : Nat) : Int)) = ((8 * (m - 1 - i) : Nat) : Int) := by rw [wrap_id (by omega) (by omega)]; omega
      have g4 : ¬ ((8 * (m - 1 - i) : Nat) : Int) < 0 := by omega
      have g5 : Int.fdiv (y : Int) (2 ^ min (8 * (m - 1 - i)) 64) = ((y / 256 ^ (m - 1 - i) : Nat) : Int) := by
        have p1 : ((2 : Int) ^ (8 * (m - 1 - i))) = ((256 ^ (m - 1 - i) : Nat) : Int) := by
          rw [show (256 : Nat) = 2 ^ 8 from rfl, ← Nat.pow_mul]; simp
        rw [Nat.min_eq_left (by omega), p1, Int.fdiv_eq_ediv_of_nonneg _ (Int.natCast_nonneg _)]
        rfl
      have hl : ((beB m y).take i ++ List.replicate (m - i) 0).length = m := by rw [List.length_append, List.length_take, beB_len, List.length_replicate]; omega
      obtain ⟨c0, hc0⟩ : ∃ c0, ((beB m y).take i ++ List.replicate (m - i) 0)[i]? = some c0 := ⟨_, List.getElem?_eq_getElem (by omega)⟩
      have g6 : ((y / 256 ^ (m - 1 - i) % 256 : Nat) : Int) < 256 := by omega
      have g7 : (UInt8.ofNat (y / 256 ^ (m - 1 - i) % 256)) = UInt8.ofNat (y / 256 ^ (m - 1 - i)) := by
        apply UInt8.toNat_inj.1; simp
      have g8 := set_mid (beB_len m y) hlt (beB_get hlt)
      have g9 : IntKind.i64.wrap ((i : Int) + 1) = ((i + 1 : Nat) : Int) := by rw [wrap_id (by omega) (by omega)]; omega
      simp only [go_sem, ↓reduceIte, reduceCtorEq, upd_ne, back_new (no_at), Nat.reduceAdd, Nat.reduceEqDiff, Nat.reduceMul, Nat.reduceSub, Nat.reduceLeDiff, Nat.reduceLT, Int.reduceToNat, Int.reduceLE, Int.reduceLT, Int.reduceEq, UInt8.reduceOfNat, List.getElem?_map, Int.toNat_natCast, g1, g2, g3, g4, g5, u8_wrap, hl, hc0, hlt, byteLV, g6, g7, g8, g9]
      exact ⟨k - 1, by omega, i + 1, rfl, by omega⟩
    · rw [List.take_of_length_le (by rw [beB_len]; omega), show m - i = 0 by omega]
      have hb := beB_len m y
      have hb2 : m ≤ (beB m y).length := by omega
      have htk : (beB m y).take m = beB m y := List.take_of_length_le (by omega)
      simp only [go_sem, ↓reduceIte, reduceCtorEq, upd_ne, back_new (no_at), Nat.reduceAdd, Nat.reduceEqDiff, Nat.reduceMul, Nat.reduceSub, Nat.reduceLeDiff, Nat.reduceLT, Int.reduceToNat, Int.reduceLE, Int.reduceLT, Int.reduceEq, UInt8.reduceOfNat, Nxt, exIf, hb, htk, Nat.le_refl, Int.toNat_natCast]
  · have c' : x < 0 ∨ ((256 ^ m : Nat) : Int) ≤ x := by omega
    rw [if_neg c]
    simp only [go_sem, ↓reduceIte, reduceCtorEq, upd_ne, back_new (no_at), Nat.reduceAdd, Nat.reduceEqDiff, Nat.reduceMul, Nat.reduceSub, Nat.reduceLeDiff, Nat.reduceLT, Int.reduceToNat, Int.reduceLE, Int.reduceLT, Int.reduceEq, UInt8.reduceOfNat, f1, e1, e2, f2, c']
end
end Go.Ev

namespace Go.Ev
set_option linter.unusedSimpArgs false
set_option linter.unusedVariables false
set_option maxRecDepth 4000
set_option maxHeartbeats 2000000
abbrev okB (n : Int) : Prop := 0 ≤ n ∧ n ≤ 255
def why4 (tos id ttl pt at' : Int) (mo : Bool) (op da : List UInt8) : Int :=
  if okB tos ∧ okB ttl ∧ okB pt ∧ (0 ≤ id ∧ id ≤ 65535) ∧ (0 ≤ at' ∧ at' ≤ 65528) ∧ Int.tmod at' 8 = 0 then
    (if op.length ≤ 40 ∧ op.length % 4 = 0 ∧ (mo = true → da.length ≠ 0 ∧ da.length % 8 = 0) then
      (if 20 + (op.length : Int) + at' + da.length ≤ 65535 then 0 else 3) else 8) else 13
section
variable {S : Sys} (hS : Has S) (n : Nat)
include hS
theorem ev_byteful (l : List Int) (hl : l.length ≤ 1000) : S.ev (n + 1) id_ip4_byteful [.lst none (l.map (LV.int .i64))] none = some (.bool (decide (∀ x ∈ l, okB x)), none) := by
  rw [Sys.step hS.h_ip4_byteful, F_ip4_byteful_eq]
  unfold F_ip4_byteful
  (try simp only [guard_merge, or_merge, and_merge, or_pick, and_pick, guard_or, guard_and]); simp only [to_ob]
  simp only [go_sem, ↓reduceIte, reduceCtorEq, upd_ne, back_new (no_at), Nat.reduceAdd, Nat.reduceEqDiff, Nat.reduceMul, Nat.reduceSub, Nat.reduceLeDiff, Nat.reduceLT, Int.reduceToNat, Int.reduceLE, Int.reduceLT, Int.reduceEq, UInt8.reduceOfNat, List.length_map]
  refine while_rule (fun k q => ∃ i : Nat, q = ([.bool false, .int .i64 (i : Int)], noSlots) ∧ i + k = l.length ∧ ∀ x ∈ l.take i, okB x) l.length ⟨0, rfl, by simp, by simp⟩ ?_
  rintro k q ⟨i, rfl, hi, hx⟩
  simp only [go_sem, ↓reduceIte, reduceCtorEq, upd_ne, back_new (no_at), Nat.reduceAdd, Nat.reduceEqDiff, Nat.reduceMul, Nat.reduceSub, Nat.reduceLeDiff, Nat.reduceLT, Int.reduceToNat, Int.reduceLE, Int.reduceLT, Int.reduceEq, UInt8.reduceOfNat]
  refine nxt_ite (fun h => ?_) (fun h => ?_)
  · have hlt : i < l.length := by omega
    obtain ⟨c, hc⟩ : ∃ c, l[i]? = some c := ⟨l[i], by simp [hlt]⟩
    have htk : l.take (i + 1) = l.take i ++ [c] := by rw [List.take_add_one, hc]; rfl
    have hcm : c ∈ l := List.mem_of_getElem? hc
    have e6 : IntKind.i64.wrap ((i : Int) + 1) = ((i + 1 : Nat) : Int) := by rw [wrap_id (by omega) (by omega)]; omega
    have hg : (l.map (LV.int IntKind.i64))[i]? = some (.int .i64 c) := by simp [hc]
    by_cases hb : c < 0 ∨ 255 < c
    · have hn : ¬ ∀ x ∈ l, okB x := fun h => by have := h c hcm; unfold okB at this; omega
      simp only [go_sem, ↓reduceIte, reduceCtorEq, upd_ne, back_new (no_at), Nat.reduceAdd, Nat.reduceEqDiff, Nat.reduceMul, Nat.reduceSub, Nat.reduceLeDiff, Nat.reduceLT, Int.reduceToNat, Int.reduceLE, Int.reduceLT, Int.reduceEq, UInt8.reduceOfNat, List.getElem?_map, Int.toNat_natCast, hg, hc, hlt, hb, Nxt, exIf, hn]
    · simp only [go_sem, ↓reduceIte, reduceCtorEq, upd_ne, back_new (no_at), Nat.reduceAdd, Nat.reduceEqDiff, Nat.reduceMul, Nat.reduceSub, Nat.reduceLeDiff, Nat.reduceLT, Int.reduceToNat, Int.reduceLE, Int.reduceLT, Int.reduceEq, UInt8.reduceOfNat, List.getElem?_map, Int.toNat_natCast, hg, hc, hlt, hb, e6]
      refine ⟨k - 1, by omega, i + 1, rfl, by omega, ?_⟩
      rw [htk]
      intro x hx'
      rcases List.mem_append.1 hx' with h' | h'
      · exact hx x h'
      · simp at h'; subst h'; unfold okB; omega
  · rw [List.take_of_length_le (by omega)] at hx
    simp only [go_sem, ↓reduceIte, reduceCtorEq, upd_ne, back_new (no_at), Nat.reduceAdd, Nat.reduceEqDiff, Nat.reduceMul, Nat.reduceSub, Nat.reduceLeDiff, Nat.reduceLT, Int.reduceToNat, Int.reduceLE, Int.reduceLT, Int.reduceEq, UInt8.reduceOfNat, Nxt, exIf, hx]
    simp only [decide_eq_true hx]
theorem ev_why4 {tos id ttl pt at' : Int} {df mo : Bool} {fr to op da : List UInt8} (hfr : fr.length = 4) (hto : to.length = 4) (hop : op.length ≤ 140737488351232) (hda : da.length ≤ 140737488351232) :
    S.ev (n + 2) id_ip4_why [ip4LV tos id ttl pt at' df mo fr to op da] none = some (.int .i64 (why4 tos id ttl pt at' mo op da), none) := by
  rw [Sys.step hS.h_ip4_why, F_ip4_why_eq]
  unfold F_ip4_why
  have hb := ev_byteful hS n [tos, ttl, pt] (by simp)
  simp only [List.map_cons, List.map_nil] at hb
  (try simp only [guard_merge, or_merge, and_merge, or_pick, and_pick, guard_or, guard_and]); simp only [to_ob]
  unfold why4
  have e1 : Int.tmod (op.length : Int) 4 = ((op.length % 4 : Nat) : Int) := rfl
  have e2 : Int.tmod (da.length : Int) 8 = ((da.length % 8 : Nat) : Int) := rfl
  by_cases cB : okB tos ∧ okB ttl ∧ okB pt
  · have hall : ∀ x ∈ [tos, ttl, pt], okB x := by simp only [List.forall_mem_cons]; exact ⟨cB.1, cB.2.1, cB.2.2, by simp⟩
    rw [decide_eq_true hall] at hb
    by_cases c1 : (0 ≤ id ∧ id ≤ 65535) ∧ (0 ≤ at' ∧ at' ≤ 65528) ∧ Int.tmod at' 8 = 0
    · obtain ⟨⟨c14, c15⟩, ⟨c16, c17⟩, c18⟩ := c1
      obtain ⟨c11, c12, c13⟩ := cB
      rw [if_pos ⟨c11, c12, c13, ⟨c14, c15⟩, ⟨c16, c17⟩, c18⟩]
      have d1 : ¬ id < 0 := by omega
      have d2 : ¬ 65535 < id := by omega
      have d3 : ¬ at' < 0 := by omega
      have d4 : ¬ 65528 < at' := by omega
      by_cases k1 : op.length ≤ 40
      · have k1' : ¬ 40 < (op.length : Int) := by omega
        have k5 : IntKind.i64.wrap (IntKind.i64.wrap (65515 - (op.length : Int)) - at') = 65515 - (op.length : Int) - at' := by
          rw [wrap_id (n := 65515 - (op.length : Int)) (by omega) (by omega), wrap_id (by omega) (by omega)]
        by_cases k2 : op.length % 4 = 0
        · have k2' : ((op.length % 4 : Nat) : Int) = 0 := by omega
          by_cases k6 : 20 + (op.length : Int) + at' + da.length ≤ 65535
          · have k6' : ¬ 65515 - (op.length : Int) - at' < (da.length : Int) := by omega
            cases mo
            · simp only [go_sem, ↓reduceIte, reduceCtorEq, upd_ne, back_new (no_at), Nat.reduceAdd, Nat.reduceEqDiff, Nat.reduceMul, Nat.reduceSub, Nat.reduceLeDiff, Nat.reduceLT, Int.reduceToNat, Int.reduceLE, Int.reduceLT, Int.reduceEq, UInt8.reduceOfNat, hb, hfr, hto, d1, d2, d3, d4, c11, c12, c13, c14, c15, c16, c17, c18, e1, e2, k1, k1', k2, k2', k5, k6, k6', false_implies]
            · by_cases k3 : da = []
              · subst k3
                simp only [go_sem, ↓reduceIte, reduceCtorEq, upd_ne, back_new (no_at), Nat.reduceAdd, Nat.reduceEqDiff, Nat.reduceMul, Nat.reduceSub, Nat.reduceLeDiff, Nat.reduceLT, Int.reduceToNat, Int.reduceLE, Int.reduceLT, Int.reduceEq, UInt8.reduceOfNat, hb, hfr, hto, d1, d2, d3, d4, c11, c12, c13, c14, c15, c16, c17, c18, e1, e2, k1, k1', k2, k2', true_implies]
              · have k3' : ¬ da.length = 0 := fun h => k3 (List.length_eq_zero_iff.1 h)
                by_cases k4 : da.length % 8 = 0
                · have k4' : ((da.length % 8 : Nat) : Int) = 0 := by omega
                  simp only [go_sem, ↓reduceIte, reduceCtorEq, upd_ne, back_new (no_at), Nat.reduceAdd, Nat.reduceEqDiff, Nat.reduceMul, Nat.reduceSub, Nat.reduceLeDiff, Nat.reduceLT, Int.reduceToNat, Int.reduceLE, Int.reduceLT, Int.reduceEq, UInt8.reduceOfNat, hb, hfr, hto, d1, d2, d3, d4, c11, c12, c13, c14, c15, c16, c17, c18, e1, e2, k1, k1', k2, k2', k3, k3', k4, k4', k5, k6, k6', true_implies]
                · have k4' : ¬ ((da.length % 8 : Nat) : Int) = 0 := by omega
                  simp only [go_sem, ↓reduceIte, reduceCtorEq, upd_ne, back_new (no_at), Nat.reduceAdd, Nat.reduceEqDiff, Nat.reduceMul, Nat.reduceSub, Nat.reduceLeDiff, Nat.reduceLT, Int.reduceToNat, Int.reduceLE, Int.reduceLT, Int.reduceEq, UInt8.reduceOfNat, hb, hfr, hto, d1, d2, d3, d4, c11, c12, c13, c14, c15, c16, c17, c18, e1, e2, k1, k1', k2, k2', k3, k3', k4, k4', true_implies]
          · have k6' : 65515 - (op.length : Int) - at' < (da.length : Int) := by omega
            cases mo
            · simp only [go_sem, ↓reduceIte, reduceCtorEq, upd_ne, back_new (no_at), Nat.reduceAdd, Nat.reduceEqDiff, Nat.reduceMul, Nat.reduceSub, Nat.reduceLeDiff, Nat.reduceLT, Int.reduceToNat, Int.reduceLE, Int.reduceLT, Int.reduceEq, UInt8.reduceOfNat, hb, hfr, hto, d1, d2, d3, d4, c11, c12, c13, c14, c15, c16, c17, c18, e1, e2, k1, k1', k2, k2', k5, k6, k6', false_implies]
            · by_cases k3 : da = []
              · subst k3
                simp only [go_sem, ↓reduceIte, reduceCtorEq, upd_ne, back_new (no_at), Nat.reduceAdd, Nat.reduceEqDiff, Nat.reduceMul, Nat.reduceSub, Nat.reduceLeDiff, Nat.reduceLT, Int.reduceToNat, Int.reduceLE, Int.reduceLT, Int.reduceEq, UInt8.reduceOfNat, hb, hfr, hto, d1, d2, d3, d4, c11, c12, c13, c14, c15, c16, c17, c18, e1, e2, k1, k1', k2, k2', true_implies]
              · have k3' : ¬ da.length = 0 := fun h => k3 (List.length_eq_zero_iff.1 h)
                by_cases k4 : da.length % 8 = 0
                · have k4' : ((da.length % 8 : Nat) : Int) = 0 := by omega
                  simp only [go_sem, ↓reduceIte, reduceCtorEq, upd_ne, back_new (no_at), Nat.reduceAdd, Nat.reduceEqDiff, Nat.reduceMul, Nat.reduceSub, Nat.reduceLeDiff, Nat.reduceLT, Int.reduceToNat, Int.reduceLE, Int.reduceLT, Int.reduceEq, UInt8.reduceOfNat, hb, hfr, hto, d1, d2, d3, d4, c11, c12, c13, c14, c15, c16, c17, c18, e1, e2, k1, k1', k2, k2', k3, k3', k4, k4', k5, k6, k6', true_implies]
                · have k4' : ¬ ((da.length % 8 : Nat) : Int) = 0 := by omega
                  simp only [go_sem, ↓reduceIte, reduceCtorEq, upd_ne, back_new (no_at), Nat.reduceAdd, Nat.reduceEqDiff, Nat.reduceMul, Nat.reduceSub, Nat.reduceLeDiff, Nat.reduceLT, Int.reduceToNat, Int.reduceLE, Int.reduceLT, Int.reduceEq, UInt8.reduceOfNat, hb, hfr, hto, d1, d2, d3, d4, c11, c12, c13, c14, c15, c16, c17, c18, e1, e2, k1, k1', k2, k2', k3, k3', k4, k4', true_implies]
        · have k2' : ¬ ((op.length % 4 : Nat) : Int) = 0 := by omega
          simp only [go_sem, ↓reduceIte, reduceCtorEq, upd_ne, back_new (no_at), Nat.reduceAdd, Nat.reduceEqDiff, Nat.reduceMul, Nat.reduceSub, Nat.reduceLeDiff, Nat.reduceLT, Int.reduceToNat, Int.reduceLE, Int.reduceLT, Int.reduceEq, UInt8.reduceOfNat, hb, hfr, hto, d1, d2, d3, d4, c11, c12, c13, c14, c15, c16, c17, c18, e1, e2, k1, k1', k2, k2']
      · have k1' : 40 < (op.length : Int) := by omega
        simp only [go_sem, ↓reduceIte, reduceCtorEq, upd_ne, back_new (no_at), Nat.reduceAdd, Nat.reduceEqDiff, Nat.reduceMul, Nat.reduceSub, Nat.reduceLeDiff, Nat.reduceLT, Int.reduceToNat, Int.reduceLE, Int.reduceLT, Int.reduceEq, UInt8.reduceOfNat, hb, hfr, hto, d1, d2, d3, d4, c11, c12, c13, c14, c15, c16, c17, c18, e1, e2, k1, k1']
    · have c1' : (((id < 0 ∨ 65535 < id) ∨ at' < 0) ∨ 65528 < at') ∨ ¬ Int.tmod at' 8 = 0 := by
        by_cases h8 : Int.tmod at' 8 = 0
        · left; simp only [h8, and_true] at c1; omega
        · right; exact h8
      have c2 : ¬ (okB tos ∧ okB ttl ∧ okB pt ∧ (0 ≤ id ∧ id ≤ 65535) ∧ (0 ≤ at' ∧ at' ≤ 65528) ∧ Int.tmod at' 8 = 0) := fun h => c1 h.2.2.2
      rw [if_neg c2]
      simp only [go_sem, ↓reduceIte, reduceCtorEq, upd_ne, back_new (no_at), Nat.reduceAdd, Nat.reduceEqDiff, Nat.reduceMul, Nat.reduceSub, Nat.reduceLeDiff, Nat.reduceLT, Int.reduceToNat, Int.reduceLE, Int.reduceLT, Int.reduceEq, UInt8.reduceOfNat, hb, hfr, hto, c1']
  · have hall : ¬ ∀ x ∈ [tos, ttl, pt], okB x := fun h => cB ⟨h _ (by simp), h _ (by simp), h _ (by simp)⟩
    rw [decide_eq_false hall] at hb
    have c2 : ¬ (okB tos ∧ okB ttl ∧ okB pt ∧ (0 ≤ id ∧ id ≤ 65535) ∧ (0 ≤ at' ∧ at' ≤ 65528) ∧ Int.tmod at' 8 = 0) := fun h => cB ⟨h.1, h.2.1, h.2.2.1⟩
    rw [if_neg c2]
    simp only [go_sem, ↓reduceIte, reduceCtorEq, upd_ne, back_new (no_at), Nat.reduceAdd, Nat.reduceEqDiff, Nat.reduceMul, Nat.reduceSub, Nat.reduceLeDiff, Nat.reduceLT, Int.reduceToNat, Int.reduceLE, Int.reduceLT, Int.reduceEq, UInt8.reduceOfNat, hb, hfr, hto]
theorem ev_big4 (x : Int) (m : Nat) (hm : m = 1 ∨ m = 2 ∨ m = 4) (hx : 0 ≤ x ∧ x < ((256 ^ m : Nat) : Int)) (h64 : I64 x) : S.ev (n + 2) id_ip4_big [.int .i64 x, .int .i64 (m : Int)] none = some (.str (beB m x.toNat), none) := by
  rw [Sys.step hS.h_ip4_big, F_ip4_big_eq]
  unfold F_ip4_big
  have h1 := ev_Big hS n x m hm h64
  unfold bigR at h1
  rw [if_pos hx] at h1
  (try simp only [guard_merge, or_merge, and_merge, or_pick, and_pick, guard_or, guard_and]); simp only [to_ob]
  simp only [go_sem, ↓reduceIte, reduceCtorEq, upd_ne, back_new (no_at), Nat.reduceAdd, Nat.reduceEqDiff, Nat.reduceMul, Nat.reduceSub, Nat.reduceLeDiff, Nat.reduceLT, Int.reduceToNat, Int.reduceLE, Int.reduceLT, Int.reduceEq, UInt8.reduceOfNat, h1]
theorem ev_fault4' (c : Int) : S.ev (n + 1) id_ip4_fault [.int .i64 c] none = some (faultLV c, none) := by
  rw [Sys.step hS.h_ip4_fault, F_ip4_fault_eq]
  unfold F_ip4_fault
  simp only [to_ob]
  simp only [go_sem, ↓reduceIte, reduceCtorEq, upd_ne, back_new (no_at), Nat.reduceAdd, Nat.reduceEqDiff, Nat.reduceMul, Nat.reduceSub, Nat.reduceLeDiff, Nat.reduceLT, Int.reduceToNat, Int.reduceLE, Int.reduceLT, Int.reduceEq, UInt8.reduceOfNat]
end
end Go.Ev

namespace Go.Ev
set_option linter.unusedSimpArgs false
set_option linter.unusedVariables false
set_option maxRecDepth 4000
set_option maxHeartbeats 4000000
def at4 (at' : Int) (df mo : Bool) : Nat := at'.toNat / 8 + (if df = true then 16384 else 0) + (if mo = true then 8192 else 0)
def hd4 (tos id ttl pt at' : Int) (df mo : Bool) (op da : List UInt8) : List UInt8 :=
  beB 1 (64 + (20 + op.length) / 4) ++ (beB 1 tos.toNat ++ (beB 2 (20 + op.length + da.length) ++ (beB 2 id.toNat ++ (beB 2 (at4 at' df mo) ++ (beB 1 ttl.toNat ++ beB 1 pt.toNat)))))
def x4 (tos id ttl pt at' : Int) (df mo : Bool) (fr to op da : List UInt8) : Int := sumS (hd4 tos id ttl pt at' df mo op da ++ (fr ++ (to ++ op)))
def by4 (tos id ttl pt at' : Int) (df mo : Bool) (fr to op da : List UInt8) : List UInt8 :=
  hd4 tos id ttl pt at' df mo op da ++ (beB 2 (x4 tos id ttl pt at' df mo fr to op da).toNat ++ (fr ++ (to ++ (op ++ da))))
def by4R (tos id ttl pt at' : Int) (df mo : Bool) (fr to op da : List UInt8) : List UInt8 := if why4 tos id ttl pt at' mo op da = 0 then by4 tos id ttl pt at' df mo fr to op da else []
structure Ok4 (tos id ttl pt at' : Int) (mo : Bool) (op da : List UInt8) : Prop where
  ktos : 0 ≤ tos ∧ tos ≤ 255
  kttl : 0 ≤ ttl ∧ ttl ≤ 255
  kpt : 0 ≤ pt ∧ pt ≤ 255
  kid : 0 ≤ id ∧ id ≤ 65535
  kat : 0 ≤ at' ∧ at' ≤ 65528
  kat8 : Int.tmod at' 8 = 0
  kop : op.length ≤ 40
  kop4 : op.length % 4 = 0
  kmo : mo = true → da.length ≠ 0 ∧ da.length % 8 = 0
  kall : 20 + (op.length : Int) + at' + da.length ≤ 65535
theorem why4_zero {tos id ttl pt at' : Int} {mo : Bool} {op da : List UInt8} : why4 tos id ttl pt at' mo op da = 0 ↔ Ok4 tos id ttl pt at' mo op da := by
  unfold why4
  constructor
  · intro h
    split at h
    case isFalse => simp at h
    rename_i h1
    split at h
    case isFalse => simp at h
    rename_i h2
    split at h
    case isFalse => simp at h
    rename_i h3
    exact ⟨h1.1, h1.2.1, h1.2.2.1, h1.2.2.2.1, h1.2.2.2.2.1, h1.2.2.2.2.2, h2.1, h2.2.1, h2.2.2, h3⟩
  · intro h
    rw [if_pos ⟨h.ktos, h.kttl, h.kpt, h.kid, h.kat, h.kat8⟩, if_pos ⟨h.kop, h.kop4, h.kmo⟩, if_pos h.kall]
theorem or_df {a : Nat} (h : a < 8192) : a ||| 16384 = a + 16384 := by
  rw [Nat.or_comm, show 16384 = 1 <<< 14 by rfl, ← Nat.shiftLeft_add_eq_or_of_lt (by omega)]
  omega
theorem or_mo {a : Nat} (h : a < 8192) : a ||| 8192 = a + 8192 := by
  rw [Nat.or_comm, show 8192 = 1 <<< 13 by rfl, ← Nat.shiftLeft_add_eq_or_of_lt (by omega)]
  omega
theorem or_dm {a : Nat} (h : a < 8192) : (a + 16384) ||| 8192 = a + 16384 + 8192 := by
  rw [← or_df h, Nat.or_assoc, show 16384 ||| 8192 = 3 <<< 13 by rfl, Nat.or_comm, ← Nat.shiftLeft_add_eq_or_of_lt (by omega), or_df h]
  simp only [Nat.shiftLeft_eq]
  omega
section
variable {S : Sys} (hS : Has S) (n : Nat)
include hS
theorem ev_bytes4 {tos id ttl pt at' : Int} {df mo : Bool} {fr to op da : List UInt8} (hf : FitIp4 tos id ttl pt at' fr to op da) :
    S.ev (n + 3) id_ip4_Bytes [ip4LV tos id ttl pt at' df mo fr to op da] none = some (.tup [.str (by4R tos id ttl pt at' df mo fr to op da), fE (why4 tos id ttl pt at' mo op da)], none) := by
  rw [Sys.step hS.h_ip4_Bytes, F_ip4_Bytes_eq]
  unfold F_ip4_Bytes
  have hfr := hf.hfr
  have hto := hf.hto
  have hw := ev_why4 hS n (tos := tos) (id := id) (ttl := ttl) (pt := pt) (at' := at') (df := df) (mo := mo) hfr hto hf.hop hf.hda
  have hfa := ev_fault4' hS (n + 1)
  (try simp only [guard_merge, or_merge, and_merge, or_pick, and_pick, guard_or, guard_and]); simp only [to_ob]
  unfold by4R
  by_cases c : why4 tos id ttl pt at' mo op da = 0
  · have ok := why4_zero.1 c
    obtain ⟨o1, o2, o3, o4, o5, o6, o7, o8, o9, o10⟩ := ok
    rw [c] at hw
    obtain ⟨at', rfl⟩ := Int.eq_ofNat_of_zero_le o5.1
    have b1 : S.ev (n + 2) id_ip4_big [.int .i64 ((64 + (20 + op.length) / 4 : Nat) : Int), .int .i64 1] none = some (.str (beB 1 (64 + (20 + op.length) / 4)), none) := ev_big4 hS n _ 1 (by omega) (lt1 (by omega) (by omega)) ⟨by omega, by omega⟩
    have b2 : S.ev (n + 2) id_ip4_big [.int .i64 tos, .int .i64 1] none = some (.str (beB 1 tos.toNat), none) := ev_big4 hS n _ 1 (by omega) (lt1 (by omega) (by omega)) ⟨by omega, by omega⟩
    have b3 : S.ev (n + 2) id_ip4_big [.int .i64 ((20 + op.length + da.length : Nat) : Int), .int .i64 2] none = some (.str (beB 2 (20 + op.length + da.length)), none) := ev_big4 hS n _ 2 (by omega) (lt2 (by omega) (by omega)) ⟨by omega, by omega⟩
    have b4 : S.ev (n + 2) id_ip4_big [.int .i64 id, .int .i64 2] none = some (.str (beB 2 id.toNat), none) := ev_big4 hS n _ 2 (by omega) (lt2 (by omega) (by omega)) ⟨by omega, by omega⟩
    have ha4 : at4 at' df mo < 65536 := by unfold at4; rw [Int.toNat_natCast]; split <;> split <;> omega
    have b5 : S.ev (n + 2) id_ip4_big [.int .i64 ((at4 at' df mo : Nat) : Int), .int .i64 2] none = some (.str (beB 2 (at4 at' df mo)), none) := ev_big4 hS n _ 2 (by omega) (lt2 (by omega) (by omega)) ⟨by omega, by omega⟩
    have b6 : S.ev (n + 2) id_ip4_big [.int .i64 ttl, .int .i64 1] none = some (.str (beB 1 ttl.toNat), none) := ev_big4 hS n _ 1 (by omega) (lt1 (by omega) (by omega)) ⟨by omega, by omega⟩
    have b7 : S.ev (n + 2) id_ip4_big [.int .i64 pt, .int .i64 1] none = some (.str (beB 1 pt.toNat), none) := ev_big4 hS n _ 1 (by omega) (lt1 (by omega) (by omega)) ⟨by omega, by omega⟩
    have hx := sumS_le (hd4 tos id ttl pt at' df mo op da ++ (fr ++ (to ++ op)))
    have hx : 0 ≤ x4 tos id ttl pt at' df mo fr to op da ∧ x4 tos id ttl pt at' df mo fr to op da ≤ 65535 := hx
    have b8 : S.ev (n + 2) id_ip4_big [.int .i64 (x4 tos id ttl pt at' df mo fr to op da), .int .i64 2] none = some (.str (beB 2 (x4 tos id ttl pt at' df mo fr to op da).toNat), none) := ev_big4 hS n _ 2 (by omega) (lt2 (by omega) (by omega)) ⟨by omega, by omega⟩
    have ho := ev_Of hS n [hd4 tos id ttl pt at' df mo op da, fr ++ (to ++ op)] (by simp) (by simp [hd4, beB_len]; omega)
    simp only [List.map_cons, List.map_nil, List.flatten_cons, List.flatten_nil, List.append_nil] at ho
    have ho : S.ev (n + 2) id_sum_Of [.lst none [.str (hd4 tos id ttl pt at' df mo op da), .str (fr ++ (to ++ op))]] none = some (.int .i64 (x4 tos id ttl pt at' df mo fr to op da), none) := ho
    have hby : by4 tos id ttl pt at' df mo fr to op da = hd4 tos id ttl pt at' df mo op da ++ (beB 2 (x4 tos id ttl pt at' df mo fr to op da).toNat ++ (fr ++ (to ++ (op ++ da)))) := rfl
    generalize by4 tos id ttl pt at' df mo fr to op da = Y at *
    generalize x4 tos id ttl pt at' df mo fr to op da = X at *
    have e1 : IntKind.i64.wrap (Int.tdiv (at' : Int) 8) = ((at' / 8 : Nat) : Int) := by
      rw [show Int.tdiv (at' : Int) 8 = ((at' / 8 : Nat) : Int) from rfl, wrap_id (by omega) (by omega)]
    have e2 : IntKind.i64.wrap (20 + (op.length : Int)) = ((20 + op.length : Nat) : Int) := by rw [wrap_id (by omega) (by omega)]; omega
    have e3 : IntKind.i64.wrap (Int.tdiv ((20 + op.length : Nat) : Int) 4) = (((20 + op.length) / 4 : Nat) : Int) := by
      rw [show Int.tdiv ((20 + op.length : Nat) : Int) 4 = (((20 + op.length) / 4 : Nat) : Int) from rfl, wrap_id (by omega) (by omega)]
    have e4 : IntKind.i64.wrap (64 + (((20 + op.length) / 4 : Nat) : Int)) = ((64 + (20 + op.length) / 4 : Nat) : Int) := by rw [wrap_id (by omega) (by omega)]; omega
    have e5 : IntKind.i64.wrap (((20 + op.length : Nat) : Int) + (da.length : Int)) = ((20 + op.length + da.length : Nat) : Int) := by rw [wrap_id (by omega) (by omega)]; omega
    have hl := beB_len
    have hl9 : ∀ k : Nat, k ≤ 1000000 → k ≤ maxStr := fun k h => by unfold maxStr; omega
    have a7 : at' / 8 < 8192 := by omega
    have f1 : bitsOf .or .i64 ((at' / 8 : Nat) : Int) 16384 = ((at' / 8 + 16384 : Nat) : Int) := by
      rw [show (16384 : Int) = ((16384 : Nat) : Int) from rfl, bits_or_nat (by simp [IntKind.max, IntKind.signed, IntKind.bits]; omega) (by decide), or_df a7]
    have f2 : bitsOf .or .i64 ((at' / 8 : Nat) : Int) 8192 = ((at' / 8 + 8192 : Nat) : Int) := by
      rw [show (8192 : Int) = ((8192 : Nat) : Int) from rfl, bits_or_nat (by simp [IntKind.max, IntKind.signed, IntKind.bits]; omega) (by decide), or_mo a7]
    have f3 : bitsOf .or .i64 ((at' / 8 + 16384 : Nat) : Int) 8192 = ((at' / 8 + 16384 + 8192 : Nat) : Int) := by
      rw [show (8192 : Int) = ((8192 : Nat) : Int) from rfl, bits_or_nat (by simp [IntKind.max, IntKind.signed, IntKind.bits]; omega) (by decide), or_dm a7]
    unfold hd4 at hby ho
    have ht1 : fr.take 4 = fr := List.take_of_length_le (by omega)
    have ht2 : to.take 4 = to := List.take_of_length_le (by omega)
    have m2 : 2 ≤ maxStr := by decide
    have m4 : 4 ≤ maxStr := by decide
    have m6 : 6 ≤ maxStr := by decide
    have m8 : 8 ≤ maxStr := by decide
    have m9 : 9 ≤ maxStr := by decide
    have m10 : 10 ≤ maxStr := by decide
    cases df
    · cases mo
      · have g5 : at4 at' false false = at' / 8 := by unfold at4; simp
        rw [g5] at b5 hby ho
        simp only [go_sem, ↓reduceIte, reduceCtorEq, upd_ne, back_new (no_at), Nat.reduceAdd, Nat.reduceEqDiff, Nat.reduceMul, Nat.reduceSub, Nat.reduceLeDiff, Nat.reduceLT, Int.reduceToNat, Int.reduceLE, Int.reduceLT, Int.reduceEq, UInt8.reduceOfNat, hw, c, hfr, hto, e1, e2, e3, e4, e5, b1, b2, b3, b4, b5, b6, b7, b8, ho, hl, ht1, ht2, toBytes_byteLV, m2, m4, m6, m8, m9, m10, List.append_assoc, List.length_append]
        simp only [hby, fE, if_true, List.append_assoc]
        repeat rw [if_pos (by unfold maxStr; omega)]
      · have g5 : at4 at' false true = at' / 8 + 8192 := by unfold at4; simp
        rw [g5] at b5 hby ho
        simp only [go_sem, ↓reduceIte, reduceCtorEq, upd_ne, back_new (no_at), Nat.reduceAdd, Nat.reduceEqDiff, Nat.reduceMul, Nat.reduceSub, Nat.reduceLeDiff, Nat.reduceLT, Int.reduceToNat, Int.reduceLE, Int.reduceLT, Int.reduceEq, UInt8.reduceOfNat, hw, c, hfr, hto, e1, e2, e3, e4, e5, f2, b1, b2, b3, b4, b5, b6, b7, b8, ho, hl, ht1, ht2, toBytes_byteLV, m2, m4, m6, m8, m9, m10, List.append_assoc, List.length_append]
        simp only [hby, fE, if_true, List.append_assoc]
        repeat rw [if_pos (by unfold maxStr; omega)]
    · cases mo
      · have g5 : at4 at' true false = at' / 8 + 16384 := by unfold at4; simp
        rw [g5] at b5 hby ho
        simp only [go_sem, ↓reduceIte, reduceCtorEq, upd_ne, back_new (no_at), Nat.reduceAdd, Nat.reduceEqDiff, Nat.reduceMul, Nat.reduceSub, Nat.reduceLeDiff, Nat.reduceLT, Int.reduceToNat, Int.reduceLE, Int.reduceLT, Int.reduceEq, UInt8.reduceOfNat, hw, c, hfr, hto, e1, e2, e3, e4, e5, f1, b1, b2, b3, b4, b5, b6, b7, b8, ho, hl, ht1, ht2, toBytes_byteLV, m2, m4, m6, m8, m9, m10, List.append_assoc, List.length_append]
        simp only [hby, fE, if_true, List.append_assoc]
        repeat rw [if_pos (by unfold maxStr; omega)]
      · have g5 : at4 at' true true = at' / 8 + 16384 + 8192 := by unfold at4; simp
        rw [g5] at b5 hby ho
        simp only [go_sem, ↓reduceIte, reduceCtorEq, upd_ne, back_new (no_at), Nat.reduceAdd, Nat.reduceEqDiff, Nat.reduceMul, Nat.reduceSub, Nat.reduceLeDiff, Nat.reduceLT, Int.reduceToNat, Int.reduceLE, Int.reduceLT, Int.reduceEq, UInt8.reduceOfNat, hw, c, hfr, hto, e1, e2, e3, e4, e5, f1, f3, b1, b2, b3, b4, b5, b6, b7, b8, ho, hl, ht1, ht2, toBytes_byteLV, m2, m4, m6, m8, m9, m10, List.append_assoc, List.length_append]
        simp only [hby, fE, if_true, List.append_assoc]
        repeat rw [if_pos (by unfold maxStr; omega)]
  · have hw' : ¬ why4 tos id ttl pt at' mo op da = 0 := c
    simp only [go_sem, ↓reduceIte, reduceCtorEq, upd_ne, back_new (no_at), Nat.reduceAdd, Nat.reduceEqDiff, Nat.reduceMul, Nat.reduceSub, Nat.reduceLeDiff, Nat.reduceLT, Int.reduceToNat, Int.reduceLE, Int.reduceLT, Int.reduceEq, UInt8.reduceOfNat, hw, hfa, c, hfr, hto, fE]
end
end Go.Ev

namespace Go.Ev
set_option linter.unusedSimpArgs false
set_option linter.unusedVariables false
set_option maxRecDepth 4000
set_option maxHeartbeats 4000000
def n4 (s : List UInt8) : Nat := bAt s 0 % 16 * 4
def pat4 (s : List UInt8) : Int := ((wAt s 6 % 8192 * 8 : Nat) : Int)
def pdf4 (s : List UInt8) : Bool := decide (wAt s 6 / 16384 % 2 = 1)
def pmo4 (s : List UInt8) : Bool := decide (wAt s 6 / 8192 % 2 = 1)
def pop4 (s : List UInt8) : List UInt8 := (s.drop 20).take (n4 s - 20)
def pda4 (s : List UInt8) : List UInt8 := (s.drop (n4 s)).take (wAt s 2 - n4 s)
def pfr4 (s : List UInt8) : List UInt8 := (s.drop 12).take 4
def pto4 (s : List UInt8) : List UInt8 := (s.drop 16).take 4
def pwhy4 (s : List UInt8) : Int := why4 (bAt s 1) (wAt s 4) (bAt s 8) (bAt s 9) (pat4 s) (pmo4 s) (pop4 s) (pda4 s)
def pK4 (s : List UInt8) : Int :=
  if s.length < 20 then 7 else if bAt s 0 / 16 ≠ 4 ∨ n4 s < 20 then 8 else if s.length < n4 s then 7 else if sumS (s.take (n4 s)) ≠ 0 then 9 else
  if wAt s 2 < n4 s then 8 else if s.length < wAt s 2 then 7 else if 32768 ≤ wAt s 6 ∨ pwhy4 s ≠ 0 then 8 else 0
abbrev z4LV : LV := ip4LV 0 0 0 0 0 false false [0, 0, 0, 0] [0, 0, 0, 0] [] []
def pLV4 (s : List UInt8) : LV := if pK4 s = 0 then ip4LV (bAt s 1) (wAt s 4) (bAt s 8) (bAt s 9) (pat4 s) (pdf4 s) (pmo4 s) (pfr4 s) (pto4 s) (pop4 s) (pda4 s) else z4LV
theorem and_pow0 (x k : Nat) : x &&& 2 ^ k = 0 ↔ ¬ x / 2 ^ k % 2 = 1 := by
  constructor
  · intro h h1
    have h2 : (x &&& 2 ^ k).testBit k = false := by rw [h]; exact Nat.zero_testBit k
    rw [Nat.testBit_and, Nat.testBit_two_pow, Nat.testBit_eq_decide_div_mod_eq] at h2
    simp [h1] at h2
  · intro h
    apply Nat.eq_of_testBit_eq
    intro i
    rw [Nat.testBit_and, Nat.testBit_two_pow, Nat.zero_testBit]
    by_cases hk : k = i
    · subst hk; rw [Nat.testBit_eq_decide_div_mod_eq]; simp [h]
    · simp [hk]
theorem bit14 (x : Nat) (h : x ≤ 65535) : (bitsOf .and .i64 (x : Int) 16384 = 0) ↔ ¬ x / 16384 % 2 = 1 := by
  rw [show (16384 : Int) = ((2 ^ 14 : Nat) : Int) from rfl, bits_and_nat (by simp [IntKind.max, IntKind.signed, IntKind.bits]; omega) (by decide)]
  have := and_pow0 x 14
  rw [← show (2 : Nat) ^ 14 = 16384 from rfl, ← this]
  omega
theorem bit13 (x : Nat) (h : x ≤ 65535) : (bitsOf .and .i64 (x : Int) 8192 = 0) ↔ ¬ x / 8192 % 2 = 1 := by
  rw [show (8192 : Int) = ((2 ^ 13 : Nat) : Int) from rfl, bits_and_nat (by simp [IntKind.max, IntKind.signed, IntKind.bits]; omega) (by decide)]
  have := and_pow0 x 13
  rw [← show (2 : Nat) ^ 13 = 8192 from rfl, ← this]
  omega
theorem bit15 (x : Nat) (h : x ≤ 65535) : (bitsOf .and .i64 (x : Int) 32768 = 0) ↔ x < 32768 := by
  rw [show (32768 : Int) = ((2 ^ 15 : Nat) : Int) from rfl, bits_and_nat (by simp [IntKind.max, IntKind.signed, IntKind.bits]; omega) (by decide)]
  have := and_pow0 x 15
  rw [show (2 : Nat) ^ 15 = 32768 from rfl] at this
  constructor
  · intro h1
    have h1 : x &&& 2 ^ 15 = 0 := by omega
    have := this.1 h1
    omega
  · intro h1
    have h2 := this.2 (by omega)
    rw [h2]; rfl
theorem wc7 {sl : Slots} {t g : Nat} {tos id ttl pt at' : Int} {df mo : Bool} {fr to op da s : List UInt8} (hf : fr.length = 4) (hs : 4 ≤ s.length) :
    wCopy (upd sl t (.obj g (ip4LV tos id ttl pt at' df mo fr to op da))) (.arr t g [7] 7 0 4) (.str s) = some (.int .i64 4, upd (upd sl t (.obj g (ip4LV tos id ttl pt at' df mo fr to op da))) t (.obj g (ip4LV tos id ttl pt at' df mo (s.take 4) to op da))) := by
  have h1 : min s.length 4 = 4 := by omega
  have h2 : fr.drop 4 = [] := List.drop_eq_nil_of_le (by omega)
  have hg : getPath (ip4LV tos id ttl pt at' df mo fr to op da) [7] = some (.bytes fr, 7) := by simp only [go_sem, ↓reduceIte, reduceCtorEq, upd_ne, back_new (no_at), Nat.reduceAdd, Nat.reduceEqDiff, Nat.reduceMul, Nat.reduceSub, Nat.reduceLeDiff, Nat.reduceLT, Int.reduceToNat, Int.reduceLE, Int.reduceLT, Int.reduceEq, UInt8.reduceOfNat]
  have hp : setPath (ip4LV tos id ttl pt at' df mo fr to op da) [7] (.bytes (s.take 4)) = some (ip4LV tos id ttl pt at' df mo (s.take 4) to op da) := by simp only [go_sem, ↓reduceIte, reduceCtorEq, upd_ne, back_new (no_at), Nat.reduceAdd, Nat.reduceEqDiff, Nat.reduceMul, Nat.reduceSub, Nat.reduceLeDiff, Nat.reduceLT, Int.reduceToNat, Int.reduceLE, Int.reduceLT, Int.reduceEq, UInt8.reduceOfNat]
  unfold wCopy
  simp only [upd_same, if_true, hg]
  rw [if_pos ⟨trivial, by omega⟩]
  simp only [h1, Option.bind_some, List.take_zero, List.nil_append, Nat.zero_add, h2, List.append_nil, hp, Option.map_some]
  rfl
theorem wc8 {sl : Slots} {t g : Nat} {tos id ttl pt at' : Int} {df mo : Bool} {fr to op da s : List UInt8} (hf : fr.length = 4) (ht : to.length = 4) (hs : 4 ≤ s.length) :
    wCopy (upd sl t (.obj g (ip4LV tos id ttl pt at' df mo fr to op da))) (.arr t g [8] 11 0 4) (.str s) = some (.int .i64 4, upd (upd sl t (.obj g (ip4LV tos id ttl pt at' df mo fr to op da))) t (.obj g (ip4LV tos id ttl pt at' df mo fr (s.take 4) op da))) := by
  have h1 : min s.length 4 = 4 := by omega
  have h2 : to.drop 4 = [] := List.drop_eq_nil_of_le (by omega)
  have hg : getPath (ip4LV tos id ttl pt at' df mo fr to op da) [8] = some (.bytes to, 11) := by simp only [go_sem, ↓reduceIte, reduceCtorEq, upd_ne, back_new (no_at), Nat.reduceAdd, Nat.reduceEqDiff, Nat.reduceMul, Nat.reduceSub, Nat.reduceLeDiff, Nat.reduceLT, Int.reduceToNat, Int.reduceLE, Int.reduceLT, Int.reduceEq, UInt8.reduceOfNat, hf]
  have hp : setPath (ip4LV tos id ttl pt at' df mo fr to op da) [8] (.bytes (s.take 4)) = some (ip4LV tos id ttl pt at' df mo fr (s.take 4) op da) := by simp only [go_sem, ↓reduceIte, reduceCtorEq, upd_ne, back_new (no_at), Nat.reduceAdd, Nat.reduceEqDiff, Nat.reduceMul, Nat.reduceSub, Nat.reduceLeDiff, Nat.reduceLT, Int.reduceToNat, Int.reduceLE, Int.reduceLT, Int.reduceEq, UInt8.reduceOfNat]
  unfold wCopy
  simp only [upd_same, if_true, hg]
  rw [if_pos ⟨trivial, by omega⟩]
  simp only [h1, Option.bind_some, List.take_zero, List.nil_append, Nat.zero_add, h2, List.append_nil, hp, Option.map_some]
  rfl
section
variable {S : Sys} (hS : Has S) (n : Nat)
include hS
theorem ev_two4 (s : List UInt8) (i : Nat) (h : i + 1 < s.length) (hi : i ≤ 1000) : S.ev (n + 1) id_ip4_Parse_1 [.int .i64 (i : Int), .box (.str s)] none = some (.int .i64 (wAt s i : Nat), none) := by
  rw [Sys.step hS.h_ip4_Parse_1, F_ip4_Parse_1_eq]
  unfold F_ip4_Parse_1
  have ha := get_def (s := s) (i := i) (by omega)
  have hb := get_def (s := s) (i := i + 1) (by omega)
  have hal := (s.getD i 0).toNat_lt
  have hbl := (s.getD (i + 1) 0).toNat_lt
  have e1 : IntKind.i64.wrap ((s.getD i 0).toNat : Int) = ((s.getD i 0).toNat : Int) := wrap_id (by omega) (by omega)
  have e2 : IntKind.i64.wrap ((s.getD (i + 1) 0).toNat : Int) = ((s.getD (i + 1) 0).toNat : Int) := wrap_id (by omega) (by omega)
  have e3 : IntKind.i64.wrap ((i : Int) + 1) = ((i + 1 : Nat) : Int) := by rw [wrap_id (by omega) (by omega)]; omega
  have e4 : IntKind.i64.wrap (((s.getD i 0).toNat : Int) * 2 ^ min 8 64) = (((s.getD i 0).toNat * 256 : Nat) : Int) := by
    rw [show min 8 64 = 8 from rfl, wrap_id (by omega) (by omega)]; omega
  have e5 := w16_or (s.getD i 0) (s.getD (i + 1) 0)
  simp only [to_ob]
  simp only [go_sem, ↓reduceIte, reduceCtorEq, upd_ne, back_new (no_at), Nat.reduceAdd, Nat.reduceEqDiff, Nat.reduceMul, Nat.reduceSub, Nat.reduceLeDiff, Nat.reduceLT, Int.reduceToNat, Int.reduceLE, Int.reduceLT, Int.reduceEq, UInt8.reduceOfNat, List.getElem?_map, Int.toNat_natCast, ha, hb, e1, e2, e3, e4, e5, wAt]
theorem ev_Right1 (a : List UInt8) (h : a.length ≤ 140737488351232) : S.ev (n + 3) id_sum_Right [.lst none [.str a]] none = some (.bool (decide (sumS a = 0)), none) := by
  rw [Sys.step hS.h_sum_Right, F_sum_Right_eq]
  unfold F_sum_Right
  have ho := ev_Of hS n [a] (by simp) (by simpa using h)
  simp only [List.map_cons, List.map_nil, List.flatten_cons, List.flatten_nil, List.append_nil] at ho
  (try simp only [guard_merge, or_merge, and_merge, or_pick, and_pick, guard_or, guard_and]); simp only [to_ob]
  simp only [go_sem, ↓reduceIte, reduceCtorEq, upd_ne, back_new (no_at), Nat.reduceAdd, Nat.reduceEqDiff, Nat.reduceMul, Nat.reduceSub, Nat.reduceLeDiff, Nat.reduceLT, Int.reduceToNat, Int.reduceLE, Int.reduceLT, Int.reduceEq, UInt8.reduceOfNat, ho, sumS]
  rfl
theorem ev_parse4 (s : List UInt8) (hs : s.length ≤ 140737488351232) : S.ev (n + 4) id_ip4_Parse [.str s] none = some (.tup [pLV4 s, fE (pK4 s)], none) := by
  rw [Sys.step hS.h_ip4_Parse, F_ip4_Parse_eq]
  unfold F_ip4_Parse
  have hfa := ev_fault4' hS (n + 2)
  (try simp only [guard_merge, or_merge, and_merge, or_pick, and_pick, guard_or, guard_and]); simp only [to_ob]
  unfold pLV4 pK4
  by_cases c1 : s.length < 20
  · have c1' : (s.length : Int) < 20 := by omega
    simp only [go_sem, ↓reduceIte, reduceCtorEq, upd_ne, back_new (no_at), Nat.reduceAdd, Nat.reduceEqDiff, Nat.reduceMul, Nat.reduceSub, Nat.reduceLeDiff, Nat.reduceLT, Int.reduceToNat, Int.reduceLE, Int.reduceLT, Int.reduceEq, UInt8.reduceOfNat, c1, c1', hfa, fE]
  · have c1' : ¬ (s.length : Int) < 20 := by omega
    have g0 := get_def (s := s) (i := 0) (by omega)
    have hb0 := bAt_le s 0
    have e1 : bitsOf .and .u8 ((s.getD 0 0).toNat : Int) 15 = ((bAt s 0 % 16 : Nat) : Int) := by
      rw [show (15 : Int) = ((2 ^ 4 - 1 : Nat) : Int) from rfl, bits_mask 4 (by omega) (show ((s.getD 0 0).toNat : Int) ≤ 255 by unfold bAt at hb0; omega) (by decide)]
      rfl
    have e2 : IntKind.i64.wrap ((bAt s 0 % 16 : Nat) : Int) = ((bAt s 0 % 16 : Nat) : Int) := wrap_id (by omega) (by omega)
    have e3 : IntKind.i64.wrap (((bAt s 0 % 16 : Nat) : Int) * 4) = ((n4 s : Nat) : Int) := by rw [wrap_id (by omega) (by omega)]; unfold n4; omega
    have e4 : Int.fdiv ((s.getD 0 0).toNat : Int) (2 ^ min 4 8) = ((bAt s 0 / 16 : Nat) : Int) := by
      rw [show min 4 8 = 4 from rfl, Int.fdiv_eq_ediv_of_nonneg _ (by decide)]; rfl
    by_cases c2 : bAt s 0 / 16 ≠ 4 ∨ n4 s < 20
    · have c2' : (¬ ((bAt s 0 / 16 : Nat) : Int) = 4) ∨ ((n4 s : Nat) : Int) < 20 := by omega
      simp only [go_sem, ↓reduceIte, reduceCtorEq, upd_ne, back_new (no_at), Nat.reduceAdd, Nat.reduceEqDiff, Nat.reduceMul, Nat.reduceSub, Nat.reduceLeDiff, Nat.reduceLT, Int.reduceToNat, Int.reduceLE, Int.reduceLT, Int.reduceEq, UInt8.reduceOfNat, List.getElem?_map, Int.toNat_natCast, c1, c1', c2, c2', hfa, fE, g0, byteLV, e1, e2, e3, e4]
    · have c2' : ¬ ((¬ ((bAt s 0 / 16 : Nat) : Int) = 4) ∨ ((n4 s : Nat) : Int) < 20) := by omega
      by_cases c3 : s.length < n4 s
      · have c3' : (s.length : Int) < ((n4 s : Nat) : Int) := by omega
        simp only [go_sem, ↓reduceIte, reduceCtorEq, upd_ne, back_new (no_at), Nat.reduceAdd, Nat.reduceEqDiff, Nat.reduceMul, Nat.reduceSub, Nat.reduceLeDiff, Nat.reduceLT, Int.reduceToNat, Int.reduceLE, Int.reduceLT, Int.reduceEq, UInt8.reduceOfNat, List.getElem?_map, Int.toNat_natCast, c1, c1', c2, c2', c3, c3', hfa, fE, g0, byteLV, e1, e2, e3, e4]
      · have c3' : ¬ (s.length : Int) < ((n4 s : Nat) : Int) := by omega
        have c3'' : n4 s ≤ s.length := by omega
        have hr := ev_Right1 hS n (s.take (n4 s)) (by rw [List.length_take]; omega)
        by_cases c4 : sumS (s.take (n4 s)) = 0
        · have t2 : S.ev (n + 3) id_ip4_Parse_1 [.int .i64 2, .box (.str s)] none = some (.int .i64 (wAt s 2 : Nat), none) := ev_two4 hS (n + 2) s 2 (by omega) (by omega)
          have t6 : S.ev (n + 3) id_ip4_Parse_1 [.int .i64 6, .box (.str s)] none = some (.int .i64 (wAt s 6 : Nat), none) := ev_two4 hS (n + 2) s 6 (by omega) (by omega)
          have t4 : S.ev (n + 3) id_ip4_Parse_1 [.int .i64 4, .box (.str s)] none = some (.int .i64 (wAt s 4 : Nat), none) := ev_two4 hS (n + 2) s 4 (by omega) (by omega)
          by_cases c5 : wAt s 2 < n4 s
          · have c5' : ((wAt s 2 : Nat) : Int) < ((n4 s : Nat) : Int) := by omega
            simp only [go_sem, ↓reduceIte, reduceCtorEq, upd_ne, back_new (no_at), Nat.reduceAdd, Nat.reduceEqDiff, Nat.reduceMul, Nat.reduceSub, Nat.reduceLeDiff, Nat.reduceLT, Int.reduceToNat, Int.reduceLE, Int.reduceLT, Int.reduceEq, UInt8.reduceOfNat, List.getElem?_map, Int.toNat_natCast, List.all_cons, List.all_nil, Nat.sub_zero, c1, c1', c2, c2', c3, c3', c3'', c4, hr, t2, t6, c5, c5', hfa, fE, g0, byteLV, e1, e2, e3, e4]
          · have c5' : ¬ ((wAt s 2 : Nat) : Int) < ((n4 s : Nat) : Int) := by omega
            have c5'' : n4 s ≤ wAt s 2 := by omega
            by_cases c6 : s.length < wAt s 2
            · have c6' : (s.length : Int) < ((wAt s 2 : Nat) : Int) := by omega
              simp only [go_sem, ↓reduceIte, reduceCtorEq, upd_ne, back_new (no_at), Nat.reduceAdd, Nat.reduceEqDiff, Nat.reduceMul, Nat.reduceSub, Nat.reduceLeDiff, Nat.reduceLT, Int.reduceToNat, Int.reduceLE, Int.reduceLT, Int.reduceEq, UInt8.reduceOfNat, List.getElem?_map, Int.toNat_natCast, List.all_cons, List.all_nil, Nat.sub_zero, c1, c1', c2, c2', c3, c3', c3'', c4, hr, t2, t6, c5, c5', c6, c6', hfa, fE, g0, byteLV, e1, e2, e3, e4]
            · have c6' : ¬ (s.length : Int) < ((wAt s 2 : Nat) : Int) := by omega
              have c6'' : wAt s 2 ≤ s.length := by omega
              have g1 := get_def (s := s) (i := 1) (by omega)
              have g8 := get_def (s := s) (i := 8) (by omega)
              have g9 := get_def (s := s) (i := 9) (by omega)
              have hb1 := bAt_le s 1
              have hb8 := bAt_le s 8
              have hb9 := bAt_le s 9
              have hw6 := wAt_le s 6
              have w1 : IntKind.i64.wrap ((s.getD 1 0).toNat : Int) = ((bAt s 1 : Nat) : Int) := wrap_id (by omega) (by unfold bAt at hb1; omega)
              have w8 : IntKind.i64.wrap ((s.getD 8 0).toNat : Int) = ((bAt s 8 : Nat) : Int) := wrap_id (by omega) (by unfold bAt at hb8; omega)
              have w9 : IntKind.i64.wrap ((s.getD 9 0).toNat : Int) = ((bAt s 9 : Nat) : Int) := wrap_id (by omega) (by unfold bAt at hb9; omega)
              have f1 : bitsOf .and .i64 ((wAt s 6 : Nat) : Int) 8191 = ((wAt s 6 % 8192 : Nat) : Int) := by
                rw [show (8191 : Int) = ((2 ^ 13 - 1 : Nat) : Int) from rfl, bits_mask 13 (by omega) (show ((wAt s 6 : Nat) : Int) ≤ 9223372036854775807 by omega) (by decide)]
                rfl
              have f2 : IntKind.i64.wrap (((wAt s 6 % 8192 : Nat) : Int) * 8) = pat4 s := by rw [wrap_id (by omega) (by omega)]; unfold pat4; omega
              have f3 := bit14 (wAt s 6) hw6
              have f4 := bit13 (wAt s 6) hw6
              have f5 := bit15 (wAt s 6) hw6
              have l20 : 20 ≤ n4 s := by omega
              have l12 : 12 ≤ s.length := by omega
              have l16 : 16 ≤ s.length := by omega
              have l12' : 4 ≤ s.length - 12 := by omega
              have l16' : 4 ≤ s.length - 16 := by omega
              have hlf : (pfr4 s).length = 4 := by unfold pfr4; simp; omega
              have hlt : (pto4 s).length = 4 := by unfold pto4; simp; omega
              have hwy := ev_why4 hS (n + 1) (tos := (bAt s 1 : Nat)) (id := (wAt s 4 : Nat)) (ttl := (bAt s 8 : Nat)) (pt := (bAt s 9 : Nat)) (at' := pat4 s) (df := pdf4 s) (mo := pmo4 s) (op := pop4 s) (da := pda4 s) hlf hlt (by unfold pop4; simp; omega) (by unfold pda4; simp; omega)
              have hwy : S.ev (n + 3) id_ip4_why [ip4LV (bAt s 1 : Nat) (wAt s 4 : Nat) (bAt s 8 : Nat) (bAt s 9 : Nat) (pat4 s) (pdf4 s) (pmo4 s) (pfr4 s) (pto4 s) (pop4 s) (pda4 s)] none = some (.int .i64 (pwhy4 s), none) := hwy
              have k1 : ∀ sl : Slots, wCopy (upd sl 9 (.obj 1 (ip4LV (bAt s 1 : Nat) (wAt s 4 : Nat) (bAt s 8 : Nat) (bAt s 9 : Nat) (pat4 s) (pdf4 s) (pmo4 s) [0, 0, 0, 0] [0, 0, 0, 0] (pop4 s) (pda4 s)))) (.arr 9 1 [7] 7 0 4) (.str (s.drop 12)) = _ := fun sl => wc7 rfl (by simp; omega)
              have k2 : ∀ sl : Slots, wCopy (upd sl 9 (.obj 1 (ip4LV (bAt s 1 : Nat) (wAt s 4 : Nat) (bAt s 8 : Nat) (bAt s 9 : Nat) (pat4 s) (pdf4 s) (pmo4 s) (pfr4 s) [0, 0, 0, 0] (pop4 s) (pda4 s)))) (.arr 9 1 [8] 11 0 4) (.str (s.drop 16)) = _ := fun sl => wc8 hlf rfl (by simp; omega)
              have v1 : decide (wAt s 6 / 16384 % 2 = 1) = pdf4 s := rfl
              have v2 : decide (wAt s 6 / 8192 % 2 = 1) = pmo4 s := rfl
              have v3 : (s.drop 20).take (n4 s - 20) = pop4 s := rfl
              have v4 : (s.drop (n4 s)).take (wAt s 2 - n4 s) = pda4 s := rfl
              have v5 : (s.drop 12).take 4 = pfr4 s := rfl
              have v6 : (s.drop 16).take 4 = pto4 s := rfl
              by_cases c7 : wAt s 6 < 32768
              · have c7' : ¬ 32768 ≤ wAt s 6 := by omega
                by_cases c8 : pwhy4 s = 0
                · rw [c8] at hwy
                  simp only [go_sem, ↓reduceIte, reduceCtorEq, upd_ne, back_new (no_at), Nat.reduceAdd, Nat.reduceEqDiff, Nat.reduceMul, Nat.reduceSub, Nat.reduceLeDiff, Nat.reduceLT, Int.reduceToNat, Int.reduceLE, Int.reduceLT, Int.reduceEq, UInt8.reduceOfNat, List.getElem?_map, Int.toNat_natCast, List.all_cons, List.all_nil, Nat.sub_zero, c1, c1', c2, c2', c3, c3', c3'', c4, hr, t2, t6, t4, c5, c5', c5'', c6, c6', c6'', l20, l12, l16, hfa, fE, g0, g1, g8, g9, byteLV, e1, e2, e3, e4, w1, w8, w9, f1, f2, f3, f4, f5, c7, c7', c8, hwy, v1, v2, v3, v4, v5, v6, Decidable.not_not, k1, k2, hlf, hlt]
                · simp only [go_sem, ↓reduceIte, reduceCtorEq, upd_ne, back_new (no_at), Nat.reduceAdd, Nat.reduceEqDiff, Nat.reduceMul, Nat.reduceSub, Nat.reduceLeDiff, Nat.reduceLT, Int.reduceToNat, Int.reduceLE, Int.reduceLT, Int.reduceEq, UInt8.reduceOfNat, List.getElem?_map, Int.toNat_natCast, List.all_cons, List.all_nil, Nat.sub_zero, c1, c1', c2, c2', c3, c3', c3'', c4, hr, t2, t6, t4, c5, c5', c5'', c6, c6', c6'', l20, l12, l16, hfa, fE, g0, g1, g8, g9, byteLV, e1, e2, e3, e4, w1, w8, w9, f1, f2, f3, f4, f5, c7, c7', c8, hwy, v1, v2, v3, v4, v5, v6, Decidable.not_not, k1, k2, hlf, hlt]
              · have c7' : 32768 ≤ wAt s 6 := by omega
                simp only [go_sem, ↓reduceIte, reduceCtorEq, upd_ne, back_new (no_at), Nat.reduceAdd, Nat.reduceEqDiff, Nat.reduceMul, Nat.reduceSub, Nat.reduceLeDiff, Nat.reduceLT, Int.reduceToNat, Int.reduceLE, Int.reduceLT, Int.reduceEq, UInt8.reduceOfNat, List.getElem?_map, Int.toNat_natCast, List.all_cons, List.all_nil, Nat.sub_zero, c1, c1', c2, c2', c3, c3', c3'', c4, hr, t2, t6, t4, c5, c5', c5'', c6, c6', c6'', l20, l12, l16, hfa, fE, g0, g1, g8, g9, byteLV, e1, e2, e3, e4, w1, w8, w9, f1, f2, f3, f4, f5, c7, c7', hwy, v1, v2, v3, v4, v5, v6, Decidable.not_not, k1, k2, hlf, hlt]
        · simp only [go_sem, ↓reduceIte, reduceCtorEq, upd_ne, back_new (no_at), Nat.reduceAdd, Nat.reduceEqDiff, Nat.reduceMul, Nat.reduceSub, Nat.reduceLeDiff, Nat.reduceLT, Int.reduceToNat, Int.reduceLE, Int.reduceLT, Int.reduceEq, UInt8.reduceOfNat, List.getElem?_map, Int.toNat_natCast, List.all_cons, List.all_nil, Nat.sub_zero, c1, c1', c2, c2', c3, c3', c3'', c4, hr, hfa, fE, g0, byteLV, e1, e2, e3, e4]
end
end Go.Ev

namespace Go.Ev
set_option linter.unusedSimpArgs false
set_option linter.unusedVariables false
set_option maxRecDepth 10000
set_option maxHeartbeats 8000000
def iK4 (s : List UInt8) : Int :=
  if s.length < 20 then 7 else if bAt s 0 / 16 ≠ 4 ∨ n4 s < 20 then 8 else if s.length < n4 s then 7 else if sumS (s.take (n4 s)) ≠ 0 then 9 else
  if wAt s 2 < n4 s ∨ 32768 ≤ wAt s 6 ∨ 65535 < wAt s 6 % 8192 * 8 + wAt s 2 then 8 else if (pda4 s).length < min 8 (wAt s 2 - n4 s) then 7 else 0
def iLV4 (s : List UInt8) : LV := if iK4 s = 0 then ip4LV (bAt s 1) (wAt s 4) (bAt s 8) (bAt s 9) (pat4 s) (pdf4 s) (pmo4 s) (pfr4 s) (pto4 s) (pop4 s) (pda4 s) else z4LV
def iC4 (s : List UInt8) : Int := if iK4 s = 0 then ((wAt s 2 - n4 s : Nat) : Int) else 0
section
variable {S : Sys} (hS : Has S) (n : Nat)
include hS
theorem ev_faultF (c : Int) : S.ev (n + 1) id_fault_fault [.int .i64 c] none = some (faultLV c, none) := by
  rw [Sys.step hS.h_fault_fault, F_fault_fault_eq]
  unfold F_fault_fault
  simp only [to_ob]
  simp only [go_sem, ↓reduceIte, reduceCtorEq, upd_ne, back_new (no_at), Nat.reduceAdd, Nat.reduceEqDiff, Nat.reduceMul, Nat.reduceSub, Nat.reduceLeDiff, Nat.reduceLT, Int.reduceToNat, Int.reduceLE, Int.reduceLT, Int.reduceEq, UInt8.reduceOfNat]
theorem ev_twoF (s : List UInt8) (i : Nat) (h : i + 1 < s.length) (hi : i ≤ 1000) : S.ev (n + 1) id_fault_Inside4_1 [.int .i64 (i : Int), .box (.str s)] none = some (.int .i64 (wAt s i : Nat), none) := by
  rw [Sys.step hS.h_fault_Inside4_1, F_fault_Inside4_1_eq]
  unfold F_fault_Inside4_1
  have ha := get_def (s := s) (i := i) (by omega)
  have hb := get_def (s := s) (i := i + 1) (by omega)
  have hal := (s.getD i 0).toNat_lt
  have hbl := (s.getD (i + 1) 0).toNat_lt
  have e1 : IntKind.i64.wrap ((s.getD i 0).toNat : Int) = ((s.getD i 0).toNat : Int) := wrap_id (by omega) (by omega)
  have e2 : IntKind.i64.wrap ((s.getD (i + 1) 0).toNat : Int) = ((s.getD (i + 1) 0).toNat : Int) := wrap_id (by omega) (by omega)
  have e3 : IntKind.i64.wrap ((i : Int) + 1) = ((i + 1 : Nat) : Int) := by rw [wrap_id (by omega) (by omega)]; omega
  have e4 : IntKind.i64.wrap (((s.getD i 0).toNat : Int) * 2 ^ min 8 64) = (((s.getD i 0).toNat * 256 : Nat) : Int) := by
    rw [show min 8 64 = 8 from rfl, wrap_id (by omega) (by omega)]; omega
  have e5 := w16_or (s.getD i 0) (s.getD (i + 1) 0)
  simp only [to_ob]
  simp only [go_sem, ↓reduceIte, reduceCtorEq, upd_ne, back_new (no_at), Nat.reduceAdd, Nat.reduceEqDiff, Nat.reduceMul, Nat.reduceSub, Nat.reduceLeDiff, Nat.reduceLT, Int.reduceToNat, Int.reduceLE, Int.reduceLT, Int.reduceEq, UInt8.reduceOfNat, List.getElem?_map, Int.toNat_natCast, ha, hb, e1, e2, e3, e4, e5, wAt]
theorem ev_short (d : List UInt8) (c : Int) : S.ev (n + 1) id_fault_short [.str d, .int .i64 c] none = some (.bool (decide ((d.length : Int) < min 8 c)), none) := by
  rw [Sys.step hS.h_fault_short, F_fault_short_eq]
  unfold F_fault_short
  have hm : (if c < 8 then c else 8) = min 8 c := by split <;> omega
  simp only [to_ob]
  simp only [go_sem, ↓reduceIte, reduceCtorEq, upd_ne, back_new (no_at), Nat.reduceAdd, Nat.reduceEqDiff, Nat.reduceMul, Nat.reduceSub, Nat.reduceLeDiff, Nat.reduceLT, Int.reduceToNat, Int.reduceLE, Int.reduceLT, Int.reduceEq, UInt8.reduceOfNat, pMinmax, pMinmax2, Option.bind_some, Bool.false_eq_true, hm]
theorem ev_inside4 (s : List UInt8) (hs : s.length ≤ 140737488351232) : S.ev (n + 4) id_fault_Inside4 [.str s] none = some (.tup [iLV4 s, .int .i64 (iC4 s), fE (iK4 s)], none) := by
  rw [Sys.step hS.h_fault_Inside4, F_fault_Inside4_eq]
  unfold F_fault_Inside4
  have hfa := ev_faultF hS (n + 2)
  (try simp only [guard_merge, or_merge, and_merge, or_pick, and_pick, guard_or, guard_and]); simp only [to_ob]
  unfold iLV4 iC4 iK4
  by_cases c1 : s.length < 20
  · have c1' : (s.length : Int) < 20 := by omega
    simp only [go_sem, ↓reduceIte, reduceCtorEq, upd_ne, back_new (no_at), Nat.reduceAdd, Nat.reduceEqDiff, Nat.reduceMul, Nat.reduceSub, Nat.reduceLeDiff, Nat.reduceLT, Int.reduceToNat, Int.reduceLE, Int.reduceLT, Int.reduceEq, UInt8.reduceOfNat, c1, c1', hfa, fE]
  · have c1' : ¬ (s.length : Int) < 20 := by omega
    have g0 := get_def (s := s) (i := 0) (by omega)
    have hb0 := bAt_le s 0
    have e1 : bitsOf .and .u8 ((s.getD 0 0).toNat : Int) 15 = ((bAt s 0 % 16 : Nat) : Int) := by
      rw [show (15 : Int) = ((2 ^ 4 - 1 : Nat) : Int) from rfl, bits_mask 4 (by omega) (show ((s.getD 0 0).toNat : Int) ≤ 255 by unfold bAt at hb0; omega) (by decide)]
      rfl
    have e2 : IntKind.i64.wrap ((bAt s 0 % 16 : Nat) : Int) = ((bAt s 0 % 16 : Nat) : Int) := wrap_id (by omega) (by omega)
    have e3 : IntKind.i64.wrap (((bAt s 0 % 16 : Nat) : Int) * 4) = ((n4 s : Nat) : Int) := by rw [wrap_id (by omega) (by omega)]; unfold n4; omega
    have e4 : Int.fdiv ((s.getD 0 0).toNat : Int) (2 ^ min 4 8) = ((bAt s 0 / 16 : Nat) : Int) := by
      rw [show min 4 8 = 4 from rfl, Int.fdiv_eq_ediv_of_nonneg _ (by decide)]; rfl
    by_cases c2 : bAt s 0 / 16 ≠ 4 ∨ n4 s < 20
    · have c2' : (¬ ((bAt s 0 / 16 : Nat) : Int) = 4) ∨ ((n4 s : Nat) : Int) < 20 := by omega
      simp only [go_sem, ↓reduceIte, reduceCtorEq, upd_ne, back_new (no_at), Nat.reduceAdd, Nat.reduceEqDiff, Nat.reduceMul, Nat.reduceSub, Nat.reduceLeDiff, Nat.reduceLT, Int.reduceToNat, Int.reduceLE, Int.reduceLT, Int.reduceEq, UInt8.reduceOfNat, List.getElem?_map, Int.toNat_natCast, c1, c1', c2, c2', hfa, fE, g0, byteLV, e1, e2, e3, e4]
    · have c2' : ¬ ((¬ ((bAt s 0 / 16 : Nat) : Int) = 4) ∨ ((n4 s : Nat) : Int) < 20) := by omega
      by_cases c3 : s.length < n4 s
      · have c3' : (s.length : Int) < ((n4 s : Nat) : Int) := by omega
        simp only [go_sem, ↓reduceIte, reduceCtorEq, upd_ne, back_new (no_at), Nat.reduceAdd, Nat.reduceEqDiff, Nat.reduceMul, Nat.reduceSub, Nat.reduceLeDiff, Nat.reduceLT, Int.reduceToNat, Int.reduceLE, Int.reduceLT, Int.reduceEq, UInt8.reduceOfNat, List.getElem?_map, Int.toNat_natCast, c1, c1', c2, c2', c3, c3', hfa, fE, g0, byteLV, e1, e2, e3, e4]
      · have c3' : ¬ (s.length : Int) < ((n4 s : Nat) : Int) := by omega
        have c3'' : n4 s ≤ s.length := by omega
        have hr := ev_Right1 hS n (s.take (n4 s)) (by rw [List.length_take]; omega)
        by_cases c4 : sumS (s.take (n4 s)) = 0
        · have t2 : S.ev (n + 3) id_fault_Inside4_1 [.int .i64 2, .box (.str s)] none = some (.int .i64 (wAt s 2 : Nat), none) := ev_twoF hS (n + 2) s 2 (by omega) (by omega)
          have t6 : S.ev (n + 3) id_fault_Inside4_1 [.int .i64 6, .box (.str s)] none = some (.int .i64 (wAt s 6 : Nat), none) := ev_twoF hS (n + 2) s 6 (by omega) (by omega)
          have t4 : S.ev (n + 3) id_fault_Inside4_1 [.int .i64 4, .box (.str s)] none = some (.int .i64 (wAt s 4 : Nat), none) := ev_twoF hS (n + 2) s 4 (by omega) (by omega)
          have c4n : ¬ (sumS (s.take (n4 s)) ≠ 0) := fun h => h c4
          have hw6 := wAt_le s 6
          have hw2 := wAt_le s 2
          have f1 : bitsOf .and .i64 ((wAt s 6 : Nat) : Int) 8191 = ((wAt s 6 % 8192 : Nat) : Int) := by
            rw [show (8191 : Int) = ((2 ^ 13 - 1 : Nat) : Int) from rfl, bits_mask 13 (by omega) (show ((wAt s 6 : Nat) : Int) ≤ 9223372036854775807 by omega) (by decide)]
            rfl
          have f2 : IntKind.i64.wrap (((wAt s 6 % 8192 : Nat) : Int) * 8) = pat4 s := by rw [wrap_id (by omega) (by omega)]; unfold pat4; omega
          have f3 := bit14 (wAt s 6) hw6
          have f4 := bit13 (wAt s 6) hw6
          have f5 := bit15 (wAt s 6) hw6
          have f6 : IntKind.i64.wrap (pat4 s + ((wAt s 2 : Nat) : Int)) = ((wAt s 6 % 8192 * 8 + wAt s 2 : Nat) : Int) := by unfold pat4; rw [wrap_id (by omega) (by omega)]; omega
          by_cases c5 : wAt s 2 < n4 s ∨ 32768 ≤ wAt s 6 ∨ 65535 < wAt s 6 % 8192 * 8 + wAt s 2
          · rw [if_neg c1, if_neg c2, if_neg c3, if_neg c4n, if_pos c5]
            by_cases d1 : ((wAt s 2 : Nat) : Int) < ((n4 s : Nat) : Int)
            · by_cases d2 : wAt s 6 < 32768 <;> by_cases d3 : 65535 < ((wAt s 6 % 8192 * 8 + wAt s 2 : Nat) : Int) <;>
              simp only [go_sem, ↓reduceIte, reduceCtorEq, upd_ne, back_new (no_at), Nat.reduceAdd, Nat.reduceEqDiff, Nat.reduceMul, Nat.reduceSub, Nat.reduceLeDiff, Nat.reduceLT, Int.reduceToNat, Int.reduceLE, Int.reduceLT, Int.reduceEq, UInt8.reduceOfNat, List.getElem?_map, Int.toNat_natCast, List.all_cons, List.all_nil, Nat.sub_zero, c1', c2', c3', c3'', c4, hr, t2, t6, f1, f2, f5, f6, d1, d2, d3, hfa, fE, g0, byteLV, e1, e2, e3, e4, Decidable.not_not]
            · by_cases d2 : wAt s 6 < 32768 <;> by_cases d3 : 65535 < ((wAt s 6 % 8192 * 8 + wAt s 2 : Nat) : Int) <;> first | (exfalso; omega) |
              simp only [go_sem, ↓reduceIte, reduceCtorEq, upd_ne, back_new (no_at), Nat.reduceAdd, Nat.reduceEqDiff, Nat.reduceMul, Nat.reduceSub, Nat.reduceLeDiff, Nat.reduceLT, Int.reduceToNat, Int.reduceLE, Int.reduceLT, Int.reduceEq, UInt8.reduceOfNat, List.getElem?_map, Int.toNat_natCast, List.all_cons, List.all_nil, Nat.sub_zero, c1', c2', c3', c3'', c4, hr, t2, t6, f1, f2, f5, f6, d1, d2, d3, hfa, fE, g0, byteLV, e1, e2, e3, e4, Decidable.not_not]
          · have d1 : ¬ ((wAt s 2 : Nat) : Int) < ((n4 s : Nat) : Int) := by omega
            have d2 : wAt s 6 < 32768 := by omega
            have d3 : ¬ 65535 < ((wAt s 6 % 8192 * 8 + wAt s 2 : Nat) : Int) := by omega
            have b1 : IntKind.i64.wrap (((wAt s 2 : Nat) : Int) - ((n4 s : Nat) : Int)) = ((wAt s 2 - n4 s : Nat) : Int) := by rw [wrap_id (by omega) (by omega)]; omega
            have hmm : (if ((wAt s 2 : Nat) : Int) < (s.length : Int) then ((wAt s 2 : Nat) : Int) else (s.length : Int)) = ((min s.length (wAt s 2) : Nat) : Int) := by split <;> omega
            have m1 : n4 s ≤ min s.length (wAt s 2) := by omega
            have m2 : min s.length (wAt s 2) ≤ s.length := by omega
            have m3 : (s.drop (n4 s)).take (min s.length (wAt s 2) - n4 s) = pda4 s := by
              unfold pda4
              by_cases q : s.length ≤ wAt s 2
              · rw [Nat.min_eq_left q, List.take_of_length_le (by simp), List.take_of_length_le (by simp; omega)]
              · rw [Nat.min_eq_right (by omega)]
            have hsh := ev_short hS (n + 2) (pda4 s) ((wAt s 2 - n4 s : Nat) : Int)
            rw [if_neg c1, if_neg c2, if_neg c3, if_neg c4n, if_neg c5]
            generalize min s.length (wAt s 2) = B at *
            by_cases c6 : (pda4 s).length < min 8 (wAt s 2 - n4 s)
            · rw [decide_eq_true (by omega)] at hsh
              rw [if_pos c6]
              simp only [go_sem, ↓reduceIte, reduceCtorEq, upd_ne, back_new (no_at), Nat.reduceAdd, Nat.reduceEqDiff, Nat.reduceMul, Nat.reduceSub, Nat.reduceLeDiff, Nat.reduceLT, Int.reduceToNat, Int.reduceLE, Int.reduceLT, Int.reduceEq, UInt8.reduceOfNat, List.getElem?_map, Int.toNat_natCast, List.all_cons, List.all_nil, Nat.sub_zero, pMinmax, pMinmax2, Option.bind_some, c1', c2', c3', c3'', c4, hr, t2, t6, f1, f2, f5, f6, d1, d2, d3, hfa, fE, g0, byteLV, e1, e2, e3, e4, Decidable.not_not, hmm, m1, m2, m3, b1, hsh, Bool.false_eq_true]
            · rw [decide_eq_false (by omega)] at hsh
              rw [if_neg c6]
              have g1 := get_def (s := s) (i := 1) (by omega)
              have g8 := get_def (s := s) (i := 8) (by omega)
              have g9 := get_def (s := s) (i := 9) (by omega)
              have hb1 := bAt_le s 1
              have hb8 := bAt_le s 8
              have hb9 := bAt_le s 9
              have w1 : IntKind.i64.wrap ((s.getD 1 0).toNat : Int) = ((bAt s 1 : Nat) : Int) := wrap_id (by omega) (by unfold bAt at hb1; omega)
              have w8 : IntKind.i64.wrap ((s.getD 8 0).toNat : Int) = ((bAt s 8 : Nat) : Int) := wrap_id (by omega) (by unfold bAt at hb8; omega)
              have w9 : IntKind.i64.wrap ((s.getD 9 0).toNat : Int) = ((bAt s 9 : Nat) : Int) := wrap_id (by omega) (by unfold bAt at hb9; omega)
              have l20 : 20 ≤ n4 s := by omega
              have l12 : 12 ≤ s.length := by omega
              have l16 : 16 ≤ s.length := by omega
              have hlf : (pfr4 s).length = 4 := by unfold pfr4; simp; omega
              have hlt : (pto4 s).length = 4 := by unfold pto4; simp; omega
              have k1 : ∀ sl : Slots, wCopy (upd sl 2 (.obj 1 (ip4LV (bAt s 1 : Nat) (wAt s 4 : Nat) (bAt s 8 : Nat) (bAt s 9 : Nat) (pat4 s) (pdf4 s) (pmo4 s) [0, 0, 0, 0] [0, 0, 0, 0] (pop4 s) (pda4 s)))) (.arr 2 1 [7] 7 0 4) (.str (s.drop 12)) = _ := fun sl => wc7 rfl (by simp; omega)
              have k2 : ∀ sl : Slots, wCopy (upd sl 2 (.obj 1 (ip4LV (bAt s 1 : Nat) (wAt s 4 : Nat) (bAt s 8 : Nat) (bAt s 9 : Nat) (pat4 s) (pdf4 s) (pmo4 s) (pfr4 s) [0, 0, 0, 0] (pop4 s) (pda4 s)))) (.arr 2 1 [8] 11 0 4) (.str (s.drop 16)) = _ := fun sl => wc8 hlf rfl (by simp; omega)
              have v1 : decide (wAt s 6 / 16384 % 2 = 1) = pdf4 s := rfl
              have v2 : decide (wAt s 6 / 8192 % 2 = 1) = pmo4 s := rfl
              have v3 : (s.drop 20).take (n4 s - 20) = pop4 s := rfl
              have v5 : (s.drop 12).take 4 = pfr4 s := rfl
              have v6 : (s.drop 16).take 4 = pto4 s := rfl
              have t12 : (s.drop 12).take (s.length - 12) = s.drop 12 := List.take_of_length_le (by simp)
              have t16 : (s.drop 16).take (s.length - 16) = s.drop 16 := List.take_of_length_le (by simp)
              simp only [go_sem, ↓reduceIte, reduceCtorEq, upd_ne, back_new (no_at), Nat.reduceAdd, Nat.reduceEqDiff, Nat.reduceMul, Nat.reduceSub, Nat.reduceLeDiff, Nat.reduceLT, Int.reduceToNat, Int.reduceLE, Int.reduceLT, Int.reduceEq, UInt8.reduceOfNat, List.getElem?_map, Int.toNat_natCast, List.all_cons, List.all_nil, Nat.sub_zero, pMinmax, pMinmax2, Option.bind_some, c1', c2', c3', c3'', c4, hr, t2, t6, t4, f1, f2, f3, f4, f5, f6, d1, d2, d3, hfa, fE, g0, g1, g8, g9, byteLV, e1, e2, e3, e4, w1, w8, w9, l20, l12, l16, Decidable.not_not, hmm, m1, m2, m3, b1, hsh, v1, v2, v3, v5, v6, k1, k2, hlf, hlt, Bool.false_eq_true]
        · simp only [go_sem, ↓reduceIte, reduceCtorEq, upd_ne, back_new (no_at), Nat.reduceAdd, Nat.reduceEqDiff, Nat.reduceMul, Nat.reduceSub, Nat.reduceLeDiff, Nat.reduceLT, Int.reduceToNat, Int.reduceLE, Int.reduceLT, Int.reduceEq, UInt8.reduceOfNat, List.getElem?_map, Int.toNat_natCast, List.all_cons, List.all_nil, Nat.sub_zero, c1, c1', c2, c2', c3, c3', c3'', c4, hr, hfa, fE, g0, byteLV, e1, e2, e3, e4]
end
end Go.Ev

namespace Go.Ev
set_option linter.unusedSimpArgs false
set_option linter.unusedVariables false
set_option maxRecDepth 10000
set_option maxHeartbeats 8000000
abbrev msgLV (k c r : Int) (d : List UInt8) : LV := .agg [.int .i64 k, .int .i64 c, .int .u32 r, .str d]
def isF4 (k : Int) : Bool := decide (k = 3 ∨ k = 4 ∨ k = 5 ∨ k = 11 ∨ k = 12)
def begN (l head : Nat) (room : Int) : Nat := (min (l : Int) room).toNat
def begO (l head : Nat) (room : Int) : Bool := decide (((min (head + 8) l : Nat) : Int) ≤ min (l : Int) room)
def im4H (k c r : Int) : List UInt8 := beB 1 k.toNat ++ beB 1 c.toNat
def im4S (k c r : Int) (d : List UInt8) : Int := sumS (beB 1 k.toNat ++ (beB 1 c.toNat ++ (0 :: 0 :: (beB 4 r.toNat ++ d))))
def im4B (k c r : Int) (d : List UInt8) : List UInt8 := beB 1 k.toNat ++ (beB 1 c.toNat ++ (beB 2 (im4S k c r d).toNat ++ (beB 4 r.toNat ++ d)))
section
variable {S : Sys} (hS : Has S) (n : Nat)
include hS
theorem ev_bigF (x : Int) (m : Nat) (hm : m = 1 ∨ m = 2 ∨ m = 4) (hx : 0 ≤ x ∧ x < ((256 ^ m : Nat) : Int)) (h64 : I64 x) : S.ev (n + 2) id_fault_big [.int .i64 x, .int .i64 (m : Int)] none = some (.str (beB m x.toNat), none) := by
  rw [Sys.step hS.h_fault_big, F_fault_big_eq]
  unfold F_fault_big
  have h1 := ev_Big hS n x m hm h64
  unfold bigR at h1
  rw [if_pos hx] at h1
  (try simp only [guard_merge, or_merge, and_merge, or_pick, and_pick, guard_or, guard_and]); simp only [to_ob]
  simp only [go_sem, ↓reduceIte, reduceCtorEq, upd_ne, back_new (no_at), Nat.reduceAdd, Nat.reduceEqDiff, Nat.reduceMul, Nat.reduceSub, Nat.reduceLeDiff, Nat.reduceLT, Int.reduceToNat, Int.reduceLE, Int.reduceLT, Int.reduceEq, UInt8.reduceOfNat, h1]
theorem ev_failure4 (k c r : Int) (d : List UInt8) : S.ev (n + 1) id_icmp4_Failure [msgLV k c r d] none = some (.bool (isF4 k), none) := by
  rw [Sys.step hS.h_icmp4_Failure, F_icmp4_Failure_eq]
  unfold F_icmp4_Failure isF4
  (try simp only [guard_merge, or_merge, and_merge, or_pick, and_pick, guard_or, guard_and]); simp only [to_ob]
  by_cases h3 : k = 3
  · subst h3; simp only [go_sem, ↓reduceIte, reduceCtorEq, upd_ne, back_new (no_at), Nat.reduceAdd, Nat.reduceEqDiff, Nat.reduceMul, Nat.reduceSub, Nat.reduceLeDiff, Nat.reduceLT, Int.reduceToNat, Int.reduceLE, Int.reduceLT, Int.reduceEq, UInt8.reduceOfNat]
  by_cases h4 : k = 4
  · subst h4; simp only [go_sem, ↓reduceIte, reduceCtorEq, upd_ne, back_new (no_at), Nat.reduceAdd, Nat.reduceEqDiff, Nat.reduceMul, Nat.reduceSub, Nat.reduceLeDiff, Nat.reduceLT, Int.reduceToNat, Int.reduceLE, Int.reduceLT, Int.reduceEq, UInt8.reduceOfNat]
  by_cases h5 : k = 5
  · subst h5; simp only [go_sem, ↓reduceIte, reduceCtorEq, upd_ne, back_new (no_at), Nat.reduceAdd, Nat.reduceEqDiff, Nat.reduceMul, Nat.reduceSub, Nat.reduceLeDiff, Nat.reduceLT, Int.reduceToNat, Int.reduceLE, Int.reduceLT, Int.reduceEq, UInt8.reduceOfNat]
  by_cases h11 : k = 11
  · subst h11; simp only [go_sem, ↓reduceIte, reduceCtorEq, upd_ne, back_new (no_at), Nat.reduceAdd, Nat.reduceEqDiff, Nat.reduceMul, Nat.reduceSub, Nat.reduceLeDiff, Nat.reduceLT, Int.reduceToNat, Int.reduceLE, Int.reduceLT, Int.reduceEq, UInt8.reduceOfNat]
  by_cases h12 : k = 12
  · subst h12; simp only [go_sem, ↓reduceIte, reduceCtorEq, upd_ne, back_new (no_at), Nat.reduceAdd, Nat.reduceEqDiff, Nat.reduceMul, Nat.reduceSub, Nat.reduceLeDiff, Nat.reduceLT, Int.reduceToNat, Int.reduceLE, Int.reduceLT, Int.reduceEq, UInt8.reduceOfNat]
  simp only [go_sem, ↓reduceIte, reduceCtorEq, upd_ne, back_new (no_at), Nat.reduceAdd, Nat.reduceEqDiff, Nat.reduceMul, Nat.reduceSub, Nat.reduceLeDiff, Nat.reduceLT, Int.reduceToNat, Int.reduceLE, Int.reduceLT, Int.reduceEq, UInt8.reduceOfNat, h3, h4, h5, h11, h12]
theorem ev_beginning (s : List UInt8) (head : Nat) (room : Int) (hs : s.length ≤ 140737488351232) (hh : head ≤ 1000000) :
    S.ev (n + 1) id_fault_beginning [.str s, .int .i64 (head : Int), .int .i64 room] none = some (.tup [.str (s.take (begN s.length head room)), .bool (begO s.length head room)], none) := by
  rw [Sys.step hS.h_fault_beginning, F_fault_beginning_eq]
  unfold F_fault_beginning begN begO
  have m1 : (if room < (s.length : Int) then room else (s.length : Int)) = min (s.length : Int) room := by split <;> omega
  have m2 : (if min (s.length : Int) room < 0 then 0 else min (s.length : Int) room) = ((min (s.length : Int) room).toNat : Int) := by split <;> omega
  have e1 : IntKind.i64.wrap ((head : Int) + 8) = ((head + 8 : Nat) : Int) := by rw [wrap_id (by omega) (by omega)]; omega
  have m3 : (if (s.length : Int) < ((head + 8 : Nat) : Int) then (s.length : Int) else ((head + 8 : Nat) : Int)) = ((min (head + 8) s.length : Nat) : Int) := by split <;> omega
  have c1 : (min (s.length : Int) room).toNat ≤ s.length := by omega
  (try simp only [guard_merge, or_merge, and_merge, or_pick, and_pick, guard_or, guard_and]); simp only [to_ob]
  simp only [go_sem, ↓reduceIte, reduceCtorEq, upd_ne, back_new (no_at), Nat.reduceAdd, Nat.reduceEqDiff, Nat.reduceMul, Nat.reduceSub, Nat.reduceLeDiff, Nat.reduceLT, Int.reduceToNat, Int.reduceLE, Int.reduceLT, Int.reduceEq, UInt8.reduceOfNat, List.getElem?_map, Int.toNat_natCast, pMinmax, pMinmax2, Option.bind_some, Bool.false_eq_true, if_true, m1, m2, m3, e1, c1, Nat.sub_zero, List.drop_zero]
theorem ev_same15 (c d : Int) : S.ev (n + 1) id_interpreterlaw15_same [fE c, .int .i64 d] none = some (.bool (decide (c = d)), none) := by
  rw [Sys.step hS.h_interpreterlaw15_same, F_interpreterlaw15_same_eq]
  unfold F_interpreterlaw15_same fE
  (try simp only [guard_merge, or_merge, and_merge, or_pick, and_pick, guard_or, guard_and]); simp only [to_ob]
  by_cases hc : c = 0
  · by_cases hd : d = 0
    · simp only [go_sem, ↓reduceIte, reduceCtorEq, upd_ne, back_new (no_at), Nat.reduceAdd, Nat.reduceEqDiff, Nat.reduceMul, Nat.reduceSub, Nat.reduceLeDiff, Nat.reduceLT, Int.reduceToNat, Int.reduceLE, Int.reduceLT, Int.reduceEq, UInt8.reduceOfNat, hc, hd]
    · have : ¬ (0 : Int) = d := fun e => hd e.symm
      simp only [go_sem, ↓reduceIte, reduceCtorEq, upd_ne, back_new (no_at), Nat.reduceAdd, Nat.reduceEqDiff, Nat.reduceMul, Nat.reduceSub, Nat.reduceLeDiff, Nat.reduceLT, Int.reduceToNat, Int.reduceLE, Int.reduceLT, Int.reduceEq, UInt8.reduceOfNat, hc, hd, this]
  · by_cases hd : d = 0
    · have : ¬ c = d := fun e => hc (e.trans hd)
      simp only [go_sem, ↓reduceIte, reduceCtorEq, upd_ne, back_new (no_at), Nat.reduceAdd, Nat.reduceEqDiff, Nat.reduceMul, Nat.reduceSub, Nat.reduceLeDiff, Nat.reduceLT, Int.reduceToNat, Int.reduceLE, Int.reduceLT, Int.reduceEq, UInt8.reduceOfNat, hc, hd, this]
    · simp only [go_sem, ↓reduceIte, reduceCtorEq, upd_ne, back_new (no_at), Nat.reduceAdd, Nat.reduceEqDiff, Nat.reduceMul, Nat.reduceSub, Nat.reduceLeDiff, Nat.reduceLT, Int.reduceToNat, Int.reduceLE, Int.reduceLT, Int.reduceEq, UInt8.reduceOfNat, hc, hd]
theorem ev_gram (k : Nat) (hk : k ≤ 5000) : S.ev (n + 2) id_interpreterlaw15_gram [.int .i64 (k : Int)] none = some (ip4LV 0 0 9 17 0 false false [192, 0, 2, 1] [192, 0, 2, 2] [] (List.replicate k 120), none) := by
  rw [Sys.step hS.h_interpreterlaw15_gram, F_interpreterlaw15_gram_eq]
  unfold F_interpreterlaw15_gram
  have hr : S.ev (n + 1) id_strings_Repeat [.str [120], .int .i64 (k : Int)] none = some (.str (repL [120] k), none) := hS.x_rep.ev n (by omega) (by simp; omega)
  rw [repL_eq] at hr
  (try simp only [guard_merge, or_merge, and_merge, or_pick, and_pick, guard_or, guard_and]); simp only [to_ob]
  simp only [go_sem, ↓reduceIte, reduceCtorEq, upd_ne, back_new (no_at), Nat.reduceAdd, Nat.reduceEqDiff, Nat.reduceMul, Nat.reduceSub, Nat.reduceLeDiff, Nat.reduceLT, Int.reduceToNat, Int.reduceLE, Int.reduceLT, Int.reduceEq, UInt8.reduceOfNat, hr]
theorem ev_martian4 (a b c d : UInt8) : S.ev (n + 1) id_class_Martian4 [.bytes [a, b, c, d]] none = some (.bool (decide (a.toNat = 0 ∨ a.toNat = 127 ∨ 224 ≤ a.toNat ∨ (a.toNat = 169 ∧ b.toNat = 254))), none) := by
  rw [Sys.step hS.h_class_Martian4, F_class_Martian4_eq]
  unfold F_class_Martian4
  (try simp only [guard_merge, or_merge, and_merge, or_pick, and_pick, guard_or, guard_and]); simp only [to_ob]
  by_cases h1 : (a.toNat : Int) = 0 <;> by_cases h2 : (a.toNat : Int) = 127 <;> by_cases h3 : (224 : Int) ≤ (a.toNat : Int) <;> by_cases h4 : (a.toNat : Int) = 169 <;> by_cases h5 : (b.toNat : Int) = 254 <;>
    first
    | (exfalso; omega)
    | (rw [decide_eq_true (p := a.toNat = 0 ∨ a.toNat = 127 ∨ 224 ≤ a.toNat ∨ (a.toNat = 169 ∧ b.toNat = 254)) (by omega)]; simp only [go_sem, ↓reduceIte, reduceCtorEq, upd_ne, back_new (no_at), Nat.reduceAdd, Nat.reduceEqDiff, Nat.reduceMul, Nat.reduceSub, Nat.reduceLeDiff, Nat.reduceLT, Int.reduceToNat, Int.reduceLE, Int.reduceLT, Int.reduceEq, UInt8.reduceOfNat, byteLV, h1, h2, h3, h4, h5, List.length_cons, List.length_nil, List.getElem?_cons_zero, List.getElem?_cons_succ])
    | (rw [decide_eq_false (p := a.toNat = 0 ∨ a.toNat = 127 ∨ 224 ≤ a.toNat ∨ (a.toNat = 169 ∧ b.toNat = 254)) (by omega)]; simp only [go_sem, ↓reduceIte, reduceCtorEq, upd_ne, back_new (no_at), Nat.reduceAdd, Nat.reduceEqDiff, Nat.reduceMul, Nat.reduceSub, Nat.reduceLeDiff, Nat.reduceLT, Int.reduceToNat, Int.reduceLE, Int.reduceLT, Int.reduceEq, UInt8.reduceOfNat, byteLV, h1, h2, h3, h4, h5, List.length_cons, List.length_nil, List.getElem?_cons_zero, List.getElem?_cons_succ])
theorem ev_icmp4B {k c r : Int} {d : List UInt8} (hk : 0 ≤ k ∧ k ≤ 255) (hc : 0 ≤ c ∧ c ≤ 255) (hr : 0 ≤ r ∧ r < 4294967296) (hd : d.length ≤ 100000) :
    S.ev (n + 3) id_icmp4_Bytes [msgLV k c r d] none = some (.tup [.str (im4B k c r d), .nili], none) := by
  rw [Sys.step hS.h_icmp4_Bytes, F_icmp4_Bytes_eq]
  unfold F_icmp4_Bytes
  have hx := sumS_le (beB 1 k.toNat ++ (beB 1 c.toNat ++ (0 :: 0 :: (beB 4 r.toNat ++ d))))
  have b1 : S.ev (n + 2) id_num_Big [.int .i64 k, .int .i64 1] none = some (bigR k 1, none) := ev_Big hS (n + 1) k 1 (by omega) ⟨by omega, by omega⟩
  have b2 : S.ev (n + 2) id_num_Big [.int .i64 c, .int .i64 1] none = some (bigR c 1, none) := ev_Big hS (n + 1) c 1 (by omega) ⟨by omega, by omega⟩
  have b3 : S.ev (n + 2) id_num_Big [.int .i64 r, .int .i64 4] none = some (bigR r 4, none) := ev_Big hS (n + 1) r 4 (by omega) ⟨by omega, by omega⟩
  have b4 : S.ev (n + 2) id_num_Big [.int .i64 (im4S k c r d), .int .i64 2] none = some (bigR (im4S k c r d) 2, none) := ev_Big hS (n + 1) _ 2 (by omega) ⟨by unfold im4S; omega, by unfold im4S; omega⟩
  have ho := ev_Of hS n [beB 1 k.toNat, beB 1 c.toNat, [0, 0], beB 4 r.toNat, d] (by simp) (by simp [beB_len]; omega)
  unfold bigR at b1 b2 b3 b4
  rw [if_pos (by omega)] at b1 b2
  rw [if_pos (by omega)] at b3
  rw [if_pos (by unfold im4S; omega)] at b4
  have e1 : IntKind.i64.wrap r = r := wrap_id (by omega) (by omega)
  simp only [List.map_cons, List.map_nil, List.flatten_cons, List.flatten_nil, List.append_nil, List.cons_append, List.nil_append] at ho
  have ho : S.ev (n + 2) id_sum_Of [.lst none [.str (beB 1 k.toNat), .str (beB 1 c.toNat), .str [0, 0], .str (beB 4 r.toNat), .str d]] none = some (.int .i64 (im4S k c r d), none) := ho
  have hl := beB_len
  (try simp only [guard_merge, or_merge, and_merge, or_pick, and_pick, guard_or, guard_and]); simp only [to_ob]
  unfold im4B
  simp only [go_sem, ↓reduceIte, reduceCtorEq, upd_ne, back_new (no_at), Nat.reduceAdd, Nat.reduceEqDiff, Nat.reduceMul, Nat.reduceSub, Nat.reduceLeDiff, Nat.reduceLT, Int.reduceToNat, Int.reduceLE, Int.reduceLT, Int.reduceEq, UInt8.reduceOfNat, b1, b2, b3, b4, ho, e1, hl, List.append_assoc, List.length_append]
  repeat rw [if_pos (by unfold maxStr; omega)]
end
end Go.Ev

namespace Go.Ev
set_option linter.unusedSimpArgs false
set_option linter.unusedVariables false
set_option maxRecDepth 10000
set_option maxHeartbeats 8000000
section
variable {S : Sys} (hS : Has S) (n : Nat)
include hS
theorem ev_own4_ok {s : List UInt8} {tos i0 ttl pt : Int} {df mo : Bool} {fr to op da a : List UInt8} {k c r id id' : Int} {md : List UInt8} {mtu : Nat} {q : List UInt8}
    (hp : S.ev (n + 4) id_ip4_Parse [.str s] none = some (.tup [ip4LV tos i0 ttl pt 0 df mo fr to op da, .nili], none)) (hfr : fr.length = 4) (hto : to.length = 4) (ha : a.length = 4)
    (hk : isF4 k = true) (hc : 0 ≤ c ∧ c ≤ 255) (hr : 0 ≤ r ∧ r < 4294967296) (hm : S.ev (n + 4) id_class_Martian4 [.bytes fr] none = some (.bool false, none)) (hpt : ¬ pt = 1)
    (hmtu : 68 ≤ mtu ∧ mtu ≤ 65535) (hl : 20 + op.length + da.length ≤ s.length) (hs : s.length ≤ 100000) (hop : op.length ≤ 40)
    (hbo : begO (20 + op.length + da.length) (20 + op.length) ((min 576 mtu : Nat) - 28 : Int) = true) (hq : (s.take (20 + op.length + da.length)).take (begN (20 + op.length + da.length) (20 + op.length) ((min 576 mtu : Nat) - 28 : Int)) = q)
    (hid : bitsOf .and .i64 id 65535 = id') (hi : I64 id')
    (hw : why4 0 id' 64 1 0 false [] (im4B k c r q) = 0) :
    S.ev (n + 5) id_fault_Own4 [msgLV k c r md, .str s, .bytes a, .int .i64 id, .int .i64 (mtu : Int)] none = some (.tup [.str (by4 0 id' 64 1 0 false false a fr [] (im4B k c r q)), .bool true], none) := by
  rw [Sys.step hS.h_fault_Own4, F_fault_Own4_eq]
  unfold F_fault_Own4
  have hk' : 0 ≤ k ∧ k ≤ 255 := by unfold isF4 at hk; have := of_decide_eq_true hk; omega
  have hf := ev_failure4 hS (n + 3) k c r md
  rw [hk] at hf
  have hql : q.length ≤ 100000 := by rw [← hq, List.length_take, List.length_take]; omega
  have hB := ev_icmp4B hS (n + 1) (k := k) (c := c) (r := r) (d := q) hk' hc hr hql
  have hbl : (im4B k c r q).length = 8 + q.length := by unfold im4B; simp only [List.length_append, beB_len]; omega
  have hby := ev_bytes4 hS (n + 1) (tos := 0) (id := id') (ttl := 64) (pt := 1) (at' := 0) (df := false) (mo := false) (fr := a) (to := fr) (op := []) (da := im4B k c r q) ⟨by unfold I64; omega, hi, by unfold I64; omega, by unfold I64; omega, by unfold I64; omega, ha, hfr, by simp, by omega⟩
  unfold by4R at hby
  rw [if_pos hw, hw] at hby
  have hg := ev_beginning hS (n + 3) (s.take (20 + op.length + da.length)) (20 + op.length) ((min 576 mtu : Nat) - 28 : Int) (by rw [List.length_take]; omega) (by omega)
  rw [show (s.take (20 + op.length + da.length)).length = 20 + op.length + da.length by rw [List.length_take]; omega, hbo, hq] at hg
  generalize im4B k c r q = IB at *
  have b1 : ¬ (mtu : Int) < 68 := by omega
  have b2 : ¬ 65535 < (mtu : Int) := by omega
  have e1 : IntKind.i64.wrap (20 + (op.length : Int)) = ((20 + op.length : Nat) : Int) := by rw [wrap_id (by omega) (by omega)]; omega
  have e2 : IntKind.i64.wrap (((20 + op.length : Nat) : Int) + (da.length : Int)) = ((20 + op.length + da.length : Nat) : Int) := by rw [wrap_id (by omega) (by omega)]; omega
  have hmm : (if (mtu : Int) < 576 then (mtu : Int) else 576) = ((min 576 mtu : Nat) : Int) := by split <;> omega
  have e3 : IntKind.i64.wrap (((min 576 mtu : Nat) : Int) - 20) = ((min 576 mtu : Nat) : Int) - 20 := wrap_id (by omega) (by omega)
  have e4 : IntKind.i64.wrap (((min 576 mtu : Nat) : Int) - 20 - 8) = ((min 576 mtu : Nat) : Int) - 28 := by rw [wrap_id (by omega) (by omega)]; omega
  (try simp only [guard_merge, or_merge, and_merge, or_pick, and_pick, guard_or, guard_and]); simp only [to_ob]
  simp only [go_sem, ↓reduceIte, reduceCtorEq, upd_ne, back_new (no_at), Nat.reduceAdd, Nat.reduceEqDiff, Nat.reduceMul, Nat.reduceSub, Nat.reduceLeDiff, Nat.reduceLT, Int.reduceToNat, Int.reduceLE, Int.reduceLT, Int.reduceEq, UInt8.reduceOfNat, List.getElem?_map, Int.toNat_natCast, pMinmax, pMinmax2, Option.bind_some, Bool.false_eq_true, hp, hf, hm, hpt, hfr, hto, ha, b1, b2, e1, e2, e3, e4, hmm, hl, hg, hB, hid, hby, fE, Nat.sub_zero, List.drop_zero]
end
end Go.Ev

namespace Go.Ev
set_option linter.unusedSimpArgs false
set_option linter.unusedVariables false
set_option maxRecDepth 10000
set_option maxHeartbeats 8000000
def mar4 (f : List UInt8) : Bool := decide (bAt f 0 = 0 ∨ bAt f 0 = 127 ∨ 224 ≤ bAt f 0 ∨ (bAt f 0 = 169 ∧ bAt f 1 = 254))
def own4C (k at' : Int) (fr : List UInt8) (pt : Int) (da : List UInt8) (mtu : Int) : Prop :=
  isF4 k = false ∨ 0 < at' ∨ mar4 fr = true ∨ mtu < 68 ∨ 65535 < mtu ∨ (pt = 1 ∧ (da = [] ∨ isF4 (bAt da 0 : Nat) = true))
def no4 : LV := .tup [.str [], .bool false]
theorem mask16 (x : Int) (h : I64 x) : bitsOf .and .i64 x 65535 = x % 65536 := by
  have h1 : ((BitVec.ofInt IntKind.i64.bits x) &&& (BitVec.ofInt IntKind.i64.bits 65535)).toNat = (x % 65536).toNat := by
    rw [BitVec.toNat_and, BitVec.toNat_ofInt, BitVec.toNat_ofInt]
    have e1 : (65535 % ((2 ^ IntKind.i64.bits : Nat) : Int)).toNat = 2 ^ 16 - 1 := by rfl
    rw [e1, Nat.and_two_pow_sub_one_eq_mod]
    have e2 : ((2 ^ IntKind.i64.bits : Nat) : Int) = 18446744073709551616 := rfl
    rw [e2]
    omega
  unfold bitsOf
  simp only
  rw [h1]
  have h2 : (((x % 65536).toNat : Nat) : Int) = x % 65536 := by omega
  rw [h2]
  exact wrap_id (by omega) (by omega)
section
variable {S : Sys} (hS : Has S) (n : Nat)
include hS
theorem ev_mar4 (f : List UInt8) (hf : f.length = 4) : S.ev (n + 1) id_class_Martian4 [.bytes f] none = some (.bool (mar4 f), none) := by
  match f, hf with
  | [a, b, c, d], _ => exact ev_martian4 hS n a b c d
theorem ev_icmp4B_bad {k c r : Int} {d : List UInt8} (hk : 0 ≤ k ∧ k ≤ 255) (hc : ¬ (0 ≤ c ∧ c ≤ 255)) (hc2 : I64 c) :
    S.ev (n + 3) id_icmp4_Bytes [msgLV k c r d] none = some (.tup [.str [], faultLV 13], none) := by
  rw [Sys.step hS.h_icmp4_Bytes, F_icmp4_Bytes_eq]
  unfold F_icmp4_Bytes
  have b1 : S.ev (n + 2) id_num_Big [.int .i64 k, .int .i64 1] none = some (bigR k 1, none) := ev_Big hS (n + 1) k 1 (by omega) ⟨by omega, by omega⟩
  have b2 : S.ev (n + 2) id_num_Big [.int .i64 c, .int .i64 1] none = some (bigR c 1, none) := ev_Big hS (n + 1) c 1 (by omega) hc2
  unfold bigR at b1 b2
  rw [if_pos (by omega)] at b1
  rw [if_neg (by omega)] at b2
  (try simp only [guard_merge, or_merge, and_merge, or_pick, and_pick, guard_or, guard_and]); simp only [to_ob]
  simp only [go_sem, ↓reduceIte, reduceCtorEq, upd_ne, back_new (no_at), Nat.reduceAdd, Nat.reduceEqDiff, Nat.reduceMul, Nat.reduceSub, Nat.reduceLeDiff, Nat.reduceLT, Int.reduceToNat, Int.reduceLE, Int.reduceLT, Int.reduceEq, UInt8.reduceOfNat, b1, b2]
section
variable {s : List UInt8} {tos i0 ttl pt at' : Int} {df mo : Bool} {fr to op da a : List UInt8} {k c r id : Int} {md : List UInt8} {mtu : Int}
theorem ev_own4_no1 {e : Int} (he : e ≠ 0) (hp : S.ev (n + 4) id_ip4_Parse [.str s] none = some (.tup [z4LV, faultLV e], none)) :
    S.ev (n + 5) id_fault_Own4 [msgLV k c r md, .str s, .bytes a, .int .i64 id, .int .i64 mtu] none = some (no4, none) := by
  rw [Sys.step hS.h_fault_Own4, F_fault_Own4_eq]
  unfold F_fault_Own4 no4
  (try simp only [guard_merge, or_merge, and_merge, or_pick, and_pick, guard_or, guard_and]); simp only [to_ob]
  simp only [go_sem, ↓reduceIte, reduceCtorEq, upd_ne, back_new (no_at), Nat.reduceAdd, Nat.reduceEqDiff, Nat.reduceMul, Nat.reduceSub, Nat.reduceLeDiff, Nat.reduceLT, Int.reduceToNat, Int.reduceLE, Int.reduceLT, Int.reduceEq, UInt8.reduceOfNat, List.getElem?_map, Int.toNat_natCast, hp]
theorem ev_own4_no2 (hp : S.ev (n + 4) id_ip4_Parse [.str s] none = some (.tup [ip4LV tos i0 ttl pt at' df mo fr to op da, .nili], none)) (hfr : fr.length = 4) (hto : to.length = 4) (hb : own4C k at' fr pt da mtu) :
    S.ev (n + 5) id_fault_Own4 [msgLV k c r md, .str s, .bytes a, .int .i64 id, .int .i64 mtu] none = some (no4, none) := by
  rw [Sys.step hS.h_fault_Own4, F_fault_Own4_eq]
  unfold F_fault_Own4 no4
  have hf := ev_failure4 hS (n + 3) k c r md
  have hm := ev_mar4 hS (n + 3) fr hfr
  (try simp only [guard_merge, or_merge, and_merge, or_pick, and_pick, guard_or, guard_and]); simp only [to_ob]
  unfold own4C at hb
  cases h1 : isF4 k with
  | false =>
    rw [h1] at hf
    simp only [go_sem, ↓reduceIte, reduceCtorEq, upd_ne, back_new (no_at), Nat.reduceAdd, Nat.reduceEqDiff, Nat.reduceMul, Nat.reduceSub, Nat.reduceLeDiff, Nat.reduceLT, Int.reduceToNat, Int.reduceLE, Int.reduceLT, Int.reduceEq, UInt8.reduceOfNat, List.getElem?_map, Int.toNat_natCast, hp, hfr, hto, hf]
  | true =>
    rw [h1] at hf
    by_cases h2 : 0 < at'
    · simp only [go_sem, ↓reduceIte, reduceCtorEq, upd_ne, back_new (no_at), Nat.reduceAdd, Nat.reduceEqDiff, Nat.reduceMul, Nat.reduceSub, Nat.reduceLeDiff, Nat.reduceLT, Int.reduceToNat, Int.reduceLE, Int.reduceLT, Int.reduceEq, UInt8.reduceOfNat, List.getElem?_map, Int.toNat_natCast, hp, hfr, hto, hf, h2]
    cases h3 : mar4 fr with
    | true =>
      rw [h3] at hm
      simp only [go_sem, ↓reduceIte, reduceCtorEq, upd_ne, back_new (no_at), Nat.reduceAdd, Nat.reduceEqDiff, Nat.reduceMul, Nat.reduceSub, Nat.reduceLeDiff, Nat.reduceLT, Int.reduceToNat, Int.reduceLE, Int.reduceLT, Int.reduceEq, UInt8.reduceOfNat, List.getElem?_map, Int.toNat_natCast, hp, hfr, hto, hf, h2, hm]
    | false =>
      rw [h3] at hm
      by_cases h4 : mtu < 68
      · simp only [go_sem, ↓reduceIte, reduceCtorEq, upd_ne, back_new (no_at), Nat.reduceAdd, Nat.reduceEqDiff, Nat.reduceMul, Nat.reduceSub, Nat.reduceLeDiff, Nat.reduceLT, Int.reduceToNat, Int.reduceLE, Int.reduceLT, Int.reduceEq, UInt8.reduceOfNat, List.getElem?_map, Int.toNat_natCast, hp, hfr, hto, hf, h2, hm, h4]
      by_cases h5 : 65535 < mtu
      · simp only [go_sem, ↓reduceIte, reduceCtorEq, upd_ne, back_new (no_at), Nat.reduceAdd, Nat.reduceEqDiff, Nat.reduceMul, Nat.reduceSub, Nat.reduceLeDiff, Nat.reduceLT, Int.reduceToNat, Int.reduceLE, Int.reduceLT, Int.reduceEq, UInt8.reduceOfNat, List.getElem?_map, Int.toNat_natCast, hp, hfr, hto, hf, h2, hm, h4, h5]
      rw [h1, h3] at hb
      have h6 : pt = 1 ∧ (da = [] ∨ isF4 (bAt da 0 : Nat) = true) := by
        rcases hb with hb | hb | hb | hb | hb | hb
        · cases hb
        · exact absurd hb h2
        · cases hb
        · exact absurd hb h4
        · exact absurd hb h5
        · exact hb
      obtain ⟨h6, h7⟩ := h6
      by_cases h8 : da = []
      · simp only [go_sem, ↓reduceIte, reduceCtorEq, upd_ne, back_new (no_at), Nat.reduceAdd, Nat.reduceEqDiff, Nat.reduceMul, Nat.reduceSub, Nat.reduceLeDiff, Nat.reduceLT, Int.reduceToNat, Int.reduceLE, Int.reduceLT, Int.reduceEq, UInt8.reduceOfNat, List.getElem?_map, Int.toNat_natCast, hp, hfr, hto, hf, h2, hm, h4, h5, h6, h8]
      · have h9 : isF4 (bAt da 0 : Nat) = true := h7.resolve_left h8
        have hpos : 0 < da.length := List.length_pos_iff.2 h8
        have g0 := get_def (s := da) (i := 0) hpos
        have hl := (da.getD 0 0).toNat_lt
        have e1 : IntKind.i64.wrap ((da.getD 0 0).toNat : Int) = ((bAt da 0 : Nat) : Int) := wrap_id (by omega) (by omega)
        have hf2 := ev_failure4 hS (n + 3) (bAt da 0 : Nat) 0 0 []
        rw [h9] at hf2
        simp only [go_sem, ↓reduceIte, reduceCtorEq, upd_ne, back_new (no_at), Nat.reduceAdd, Nat.reduceEqDiff, Nat.reduceMul, Nat.reduceSub, Nat.reduceLeDiff, Nat.reduceLT, Int.reduceToNat, Int.reduceLE, Int.reduceLT, Int.reduceEq, UInt8.reduceOfNat, List.getElem?_map, Int.toNat_natCast, hp, hfr, hto, hf, h2, hm, h4, h5, h6, h8, g0, byteLV, e1, hf2]
theorem ev_own4_go (hp : S.ev (n + 4) id_ip4_Parse [.str s] none = some (.tup [ip4LV tos i0 ttl pt at' df mo fr to op da, .nili], none)) (hfr : fr.length = 4) (hto : to.length = 4) (ha : a.length = 4)
    (hn : ¬ own4C k at' fr pt da mtu) (hc2 : I64 c) (hr : 0 ≤ r ∧ r < 4294967296) (hl : 20 + op.length + da.length ≤ s.length) (hs : s.length ≤ 100000) (hop : op.length ≤ 40) (hi : I64 id)
    {q : List UInt8} {bo : Bool} (hbo : begO (20 + op.length + da.length) (20 + op.length) (min 576 mtu - 28) = bo) (hq : (s.take (20 + op.length + da.length)).take (begN (20 + op.length + da.length) (20 + op.length) (min 576 mtu - 28)) = q) :
    S.ev (n + 5) id_fault_Own4 [msgLV k c r md, .str s, .bytes a, .int .i64 id, .int .i64 mtu] none =
      some (if bo = true ∧ 0 ≤ c ∧ c ≤ 255 then .tup [.str (by4 0 (id % 65536) 64 1 0 false false a fr [] (im4B k c r q)), .bool true] else no4, none) := by
  rw [Sys.step hS.h_fault_Own4, F_fault_Own4_eq]
  unfold F_fault_Own4 no4
  have h1 : isF4 k = true := by cases h : isF4 k with | true => rfl | false => exact absurd (.inl h) hn
  have h2 : ¬ 0 < at' := fun h => hn (.inr (.inl h))
  have h3 : mar4 fr = false := by cases h : mar4 fr with | false => rfl | true => exact absurd (.inr (.inr (.inl h))) hn
  have h4 : ¬ mtu < 68 := fun h => hn (.inr (.inr (.inr (.inl h))))
  have h5 : ¬ 65535 < mtu := fun h => hn (.inr (.inr (.inr (.inr (.inl h)))))
  have hf := ev_failure4 hS (n + 3) k c r md
  have hm := ev_mar4 hS (n + 3) fr hfr
  rw [h1] at hf
  rw [h3] at hm
  obtain ⟨M, rfl⟩ := Int.eq_ofNat_of_zero_le (show 0 ≤ mtu by omega)
  have hk' : 0 ≤ k ∧ k ≤ 255 := by unfold isF4 at h1; have := of_decide_eq_true h1; omega
  have hql : q.length ≤ 576 := by rw [← hq, List.length_take, List.length_take]; unfold begN; omega
  have hg := ev_beginning hS (n + 3) (s.take (20 + op.length + da.length)) (20 + op.length) (min 576 (M : Int) - 28) (by rw [List.length_take]; omega) (by omega)
  rw [show (s.take (20 + op.length + da.length)).length = 20 + op.length + da.length by rw [List.length_take]; omega, hbo, hq] at hg
  have e1 : IntKind.i64.wrap (20 + (op.length : Int)) = ((20 + op.length : Nat) : Int) := by rw [wrap_id (by omega) (by omega)]; omega
  have e2 : IntKind.i64.wrap (((20 + op.length : Nat) : Int) + (da.length : Int)) = ((20 + op.length + da.length : Nat) : Int) := by rw [wrap_id (by omega) (by omega)]; omega
  have hmm : (if (M : Int) < 576 then (M : Int) else 576) = min 576 (M : Int) := by split <;> omega
  have e3 : IntKind.i64.wrap (min 576 (M : Int) - 20) = min 576 (M : Int) - 20 := wrap_id (by omega) (by omega)
  have e4 : IntKind.i64.wrap (min 576 (M : Int) - 20 - 8) = min 576 (M : Int) - 28 := by rw [wrap_id (by omega) (by omega)]; omega
  have hid := mask16 id hi
  have hB : (0 ≤ c ∧ c ≤ 255) → S.ev (n + 4) id_icmp4_Bytes [msgLV k c r q] none = _ := fun hc => ev_icmp4B hS (n + 1) hk' hc hr (by omega)
  have hB2 : ¬ (0 ≤ c ∧ c ≤ 255) → S.ev (n + 4) id_icmp4_Bytes [msgLV k c r q] none = _ := fun hc => ev_icmp4B_bad hS (n + 1) hk' hc hc2
  have hbl : (im4B k c r q).length = 8 + q.length := by unfold im4B; simp only [List.length_append, beB_len]; omega
  have hby := ev_bytes4 hS (n + 1) (tos := 0) (id := id % 65536) (ttl := 64) (pt := 1) (at' := 0) (df := false) (mo := false) (fr := a) (to := fr) (op := []) (da := im4B k c r q) ⟨by unfold I64; omega, by unfold I64; omega, by unfold I64; omega, by unfold I64; omega, by unfold I64; omega, ha, hfr, by simp, by omega⟩
  have hw : why4 0 (id % 65536) 64 1 0 false [] (im4B k c r q) = 0 := why4_zero.2 ⟨by omega, by omega, by omega, by omega, by omega, rfl, by simp, by simp, by simp, by rw [hbl]; simp; omega⟩
  unfold by4R at hby
  rw [if_pos hw, hw] at hby
  generalize im4B k c r q = IB at *
  have main : ∀ (X : List LV → Prop), True := fun _ => trivial
  have hpos : pt = 1 → 0 < da.length ∧ ¬ da = [] ∧ isF4 (bAt da 0 : Nat) = false := fun h => by
    have h8 : ¬ da = [] := fun q => hn (.inr (.inr (.inr (.inr (.inr ⟨h, .inl q⟩)))))
    refine ⟨List.length_pos_iff.2 h8, h8, ?_⟩
    cases h9 : isF4 (bAt da 0 : Nat) with
    | false => rfl
    | true => exact absurd (.inr (.inr (.inr (.inr (.inr ⟨h, .inr h9⟩))))) hn
  (try simp only [guard_merge, or_merge, and_merge, or_pick, and_pick, guard_or, guard_and]); simp only [to_ob]
  by_cases hpt : pt = 1
  · obtain ⟨p1, p2, p3⟩ := hpos hpt
    have g0 := get_def (s := da) (i := 0) p1
    have hl0 := (da.getD 0 0).toNat_lt
    have e5 : IntKind.i64.wrap ((da.getD 0 0).toNat : Int) = ((bAt da 0 : Nat) : Int) := wrap_id (by omega) (by omega)
    have hf2 := ev_failure4 hS (n + 3) (bAt da 0 : Nat) 0 0 []
    rw [p3] at hf2
    by_cases hc : 0 ≤ c ∧ c ≤ 255
    · have hB := hB hc
      cases bo with
      | true =>
        rw [if_pos ⟨rfl, hc⟩]
        simp only [go_sem, ↓reduceIte, reduceCtorEq, upd_ne, back_new (no_at), Nat.reduceAdd, Nat.reduceEqDiff, Nat.reduceMul, Nat.reduceSub, Nat.reduceLeDiff, Nat.reduceLT, Int.reduceToNat, Int.reduceLE, Int.reduceLT, Int.reduceEq, UInt8.reduceOfNat, List.getElem?_map, Int.toNat_natCast, pMinmax, pMinmax2, Option.bind_some, Bool.false_eq_true, hp, hf, hm, hpt, p2, g0, byteLV, e5, hf2, hfr, hto, ha, h2, h4, h5, e1, e2, e3, e4, hmm, hl, hg, hB, hid, hby, fE, Nat.sub_zero, List.drop_zero]
      | false =>
        rw [if_neg (by simp)]
        simp only [go_sem, ↓reduceIte, reduceCtorEq, upd_ne, back_new (no_at), Nat.reduceAdd, Nat.reduceEqDiff, Nat.reduceMul, Nat.reduceSub, Nat.reduceLeDiff, Nat.reduceLT, Int.reduceToNat, Int.reduceLE, Int.reduceLT, Int.reduceEq, UInt8.reduceOfNat, List.getElem?_map, Int.toNat_natCast, pMinmax, pMinmax2, Option.bind_some, Bool.false_eq_true, hp, hf, hm, hpt, p2, g0, byteLV, e5, hf2, hfr, hto, ha, h2, h4, h5, e1, e2, e3, e4, hmm, hl, hg, hB, hid, hby, fE, Nat.sub_zero, List.drop_zero]
    · have hB := hB2 hc
      rw [if_neg (fun q => hc q.2)]
      cases bo <;> simp only [go_sem, ↓reduceIte, reduceCtorEq, upd_ne, back_new (no_at), Nat.reduceAdd, Nat.reduceEqDiff, Nat.reduceMul, Nat.reduceSub, Nat.reduceLeDiff, Nat.reduceLT, Int.reduceToNat, Int.reduceLE, Int.reduceLT, Int.reduceEq, UInt8.reduceOfNat, List.getElem?_map, Int.toNat_natCast, pMinmax, pMinmax2, Option.bind_some, Bool.false_eq_true, hp, hf, hm, hpt, p2, g0, byteLV, e5, hf2, hfr, hto, ha, h2, h4, h5, e1, e2, e3, e4, hmm, hl, hg, hB, hid, hby, fE, Nat.sub_zero, List.drop_zero]
  · by_cases hc : 0 ≤ c ∧ c ≤ 255
    · have hB := hB hc
      cases bo with
      | true =>
        rw [if_pos ⟨rfl, hc⟩]
        simp only [go_sem, ↓reduceIte, reduceCtorEq, upd_ne, back_new (no_at), Nat.reduceAdd, Nat.reduceEqDiff, Nat.reduceMul, Nat.reduceSub, Nat.reduceLeDiff, Nat.reduceLT, Int.reduceToNat, Int.reduceLE, Int.reduceLT, Int.reduceEq, UInt8.reduceOfNat, List.getElem?_map, Int.toNat_natCast, pMinmax, pMinmax2, Option.bind_some, Bool.false_eq_true, hp, hf, hm, hpt, hfr, hto, ha, h2, h4, h5, e1, e2, e3, e4, hmm, hl, hg, hB, hid, hby, fE, Nat.sub_zero, List.drop_zero]
      | false =>
        rw [if_neg (by simp)]
        simp only [go_sem, ↓reduceIte, reduceCtorEq, upd_ne, back_new (no_at), Nat.reduceAdd, Nat.reduceEqDiff, Nat.reduceMul, Nat.reduceSub, Nat.reduceLeDiff, Nat.reduceLT, Int.reduceToNat, Int.reduceLE, Int.reduceLT, Int.reduceEq, UInt8.reduceOfNat, List.getElem?_map, Int.toNat_natCast, pMinmax, pMinmax2, Option.bind_some, Bool.false_eq_true, hp, hf, hm, hpt, hfr, hto, ha, h2, h4, h5, e1, e2, e3, e4, hmm, hl, hg, hB, hid, hby, fE, Nat.sub_zero, List.drop_zero]
    · have hB := hB2 hc
      rw [if_neg (fun q => hc q.2)]
      cases bo <;> simp only [go_sem, ↓reduceIte, reduceCtorEq, upd_ne, back_new (no_at), Nat.reduceAdd, Nat.reduceEqDiff, Nat.reduceMul, Nat.reduceSub, Nat.reduceLeDiff, Nat.reduceLT, Int.reduceToNat, Int.reduceLE, Int.reduceLT, Int.reduceEq, UInt8.reduceOfNat, List.getElem?_map, Int.toNat_natCast, pMinmax, pMinmax2, Option.bind_some, Bool.false_eq_true, hp, hf, hm, hpt, hfr, hto, ha, h2, h4, h5, e1, e2, e3, e4, hmm, hl, hg, hB, hid, hby, fE, Nat.sub_zero, List.drop_zero]
end
end
end Go.Ev

namespace Go.Ev
set_option linter.unusedSimpArgs false
set_option linter.unusedVariables false
set_option maxRecDepth 10000
set_option maxHeartbeats 8000000
section
variable {S : Sys} (hS : Has S) (n : Nat)
include hS
theorem ev_bareC (a : List UInt8) (m : Int) (hm : 0 ≤ m ∧ m ≤ 128) (ha : a.length = 16) : ∃ b, S.ev (n + 1) id_class_bare [.lst none (a.map byteLV), .int .i64 m] none = some (.bool b, none) := by
  rw [Sys.step hS.h_class_bare, F_class_bare_eq]
  unfold F_class_bare
  (try simp only [guard_merge, or_merge, and_merge, or_pick, and_pick, guard_or, guard_and]); simp only [to_ob]
  simp only [go_sem, ↓reduceIte, reduceCtorEq, upd_ne, back_new (no_at), Nat.reduceAdd, Nat.reduceEqDiff, Nat.reduceMul, Nat.reduceSub, Nat.reduceLeDiff, Nat.reduceLT, Int.reduceToNat, Int.reduceLE, Int.reduceLT, Int.reduceEq, UInt8.reduceOfNat]
  refine while_ruleP (fun x => ∃ b, x = some (LV.bool b, none)) (fun k q => ∃ i : Nat, q = ([LV.bool false, LV.int .i64 (i : Int)], noSlots) ∧ i + k = 16) 16 ⟨0, rfl, by omega⟩ ?_
  rintro k q ⟨i, rfl, hi⟩
  simp only [go_sem, ↓reduceIte, reduceCtorEq, upd_ne, back_new (no_at), Nat.reduceAdd, Nat.reduceEqDiff, Nat.reduceMul, Nat.reduceSub, Nat.reduceLeDiff, Nat.reduceLT, Int.reduceToNat, Int.reduceLE, Int.reduceLT, Int.reduceEq, UInt8.reduceOfNat, List.length_map, ha]
  refine nxtP_ite (fun h => ?_) (fun h => ?_)
  · have hlt : i < a.length := by omega
    obtain ⟨x, hx⟩ : ∃ x, a[i]? = some x := ⟨a[i], by simp [hlt]⟩
    have e1 : IntKind.i64.wrap ((i : Int) + 1) = ((i + 1 : Nat) : Int) := by rw [wrap_id (by omega) (by omega)]; omega
    have e2 : IntKind.i64.wrap (8 * (i : Int)) = 8 * (i : Int) := wrap_id (by omega) (by omega)
    have e3 : IntKind.i64.wrap (m - 8 * (i : Int)) = m - 8 * (i : Int) := wrap_id (by omega) (by omega)
    have hmm : ∃ c : Int, (0 ≤ c ∧ c ≤ 8) ∧ (if 8 < (if m - 8 * (i : Int) < 0 then 0 else m - 8 * (i : Int)) then 8 else (if m - 8 * (i : Int) < 0 then 0 else m - 8 * (i : Int))) = c := ⟨_, by split <;> split <;> omega, rfl⟩
    obtain ⟨c, hc, hmm⟩ := hmm
    simp only [go_sem, ↓reduceIte, reduceCtorEq, upd_ne, back_new (no_at), Nat.reduceAdd, Nat.reduceEqDiff, Nat.reduceMul, Nat.reduceSub, Nat.reduceLeDiff, Nat.reduceLT, Int.reduceToNat, Int.reduceLE, Int.reduceLT, Int.reduceEq, UInt8.reduceOfNat, List.getElem?_map, Int.toNat_natCast, pMinmax, pMinmax2, hx, byteLV, e1, e2, e3, hmm]
    rw [if_neg (by omega)]
    refine nxtP_ite (fun h => ?_) (fun h => ?_)
    · simp only [NxtP, exIf, go_sem, ↓reduceIte, reduceCtorEq, upd_ne, back_new (no_at), Nat.reduceAdd, Nat.reduceEqDiff, Nat.reduceMul, Nat.reduceSub, Nat.reduceLeDiff, Nat.reduceLT, Int.reduceToNat, Int.reduceLE, Int.reduceLT, Int.reduceEq, UInt8.reduceOfNat]
      exact ⟨_, rfl⟩
    · exact ⟨k - 1, by omega, i + 1, rfl, by omega⟩
  · simp only [NxtP, exIf, go_sem, ↓reduceIte, reduceCtorEq, upd_ne, back_new (no_at), Nat.reduceAdd, Nat.reduceEqDiff, Nat.reduceMul, Nat.reduceSub, Nat.reduceLeDiff, Nat.reduceLT, Int.reduceToNat, Int.reduceLE, Int.reduceLT, Int.reduceEq, UInt8.reduceOfNat]
    exact ⟨_, rfl⟩
theorem ev_holdsC (a b : List UInt8) (m : Int) (hm : 0 ≤ m ∧ m ≤ 128) (ha : a.length = 16) (hb : b.length = 16) : ∃ r, S.ev (n + 1) id_class_holds [.lst none (a.map byteLV), .lst none (b.map byteLV), .int .i64 m] none = some (.bool r, none) := by
  rw [Sys.step hS.h_class_holds, F_class_holds_eq]
  unfold F_class_holds
  (try simp only [guard_merge, or_merge, and_merge, or_pick, and_pick, guard_or, guard_and]); simp only [to_ob]
  simp only [go_sem, ↓reduceIte, reduceCtorEq, upd_ne, back_new (no_at), Nat.reduceAdd, Nat.reduceEqDiff, Nat.reduceMul, Nat.reduceSub, Nat.reduceLeDiff, Nat.reduceLT, Int.reduceToNat, Int.reduceLE, Int.reduceLT, Int.reduceEq, UInt8.reduceOfNat]
  refine while_ruleP (fun x => ∃ b, x = some (LV.bool b, none)) (fun k q => ∃ i : Nat, q = ([LV.bool false, LV.int .i64 (i : Int)], noSlots) ∧ i + k = 16) 16 ⟨0, rfl, by omega⟩ ?_
  rintro k q ⟨i, rfl, hi⟩
  simp only [go_sem, ↓reduceIte, reduceCtorEq, upd_ne, back_new (no_at), Nat.reduceAdd, Nat.reduceEqDiff, Nat.reduceMul, Nat.reduceSub, Nat.reduceLeDiff, Nat.reduceLT, Int.reduceToNat, Int.reduceLE, Int.reduceLT, Int.reduceEq, UInt8.reduceOfNat, List.length_map, ha]
  refine nxtP_ite (fun h => ?_) (fun h => ?_)
  · have hlt : i < a.length := by omega
    have hlt2 : i < b.length := by omega
    obtain ⟨x, hx⟩ : ∃ x, a[i]? = some x := ⟨a[i], by simp [hlt]⟩
    obtain ⟨y, hy⟩ : ∃ y, b[i]? = some y := ⟨b[i], by simp [hlt2]⟩
    have e1 : IntKind.i64.wrap ((i : Int) + 1) = ((i + 1 : Nat) : Int) := by rw [wrap_id (by omega) (by omega)]; omega
    have e2 : IntKind.i64.wrap (8 * (i : Int)) = 8 * (i : Int) := wrap_id (by omega) (by omega)
    have e3 : IntKind.i64.wrap (m - 8 * (i : Int)) = m - 8 * (i : Int) := wrap_id (by omega) (by omega)
    have hmm : ∃ c : Int, (0 ≤ c ∧ c ≤ 8) ∧ (if 8 < (if m - 8 * (i : Int) < 0 then 0 else m - 8 * (i : Int)) then 8 else (if m - 8 * (i : Int) < 0 then 0 else m - 8 * (i : Int))) = c := ⟨_, by split <;> split <;> omega, rfl⟩
    obtain ⟨c, hc, hmm⟩ := hmm
    have e4 : IntKind.i64.wrap (8 - c) = 8 - c := wrap_id (by omega) (by omega)
    simp only [go_sem, ↓reduceIte, reduceCtorEq, upd_ne, back_new (no_at), Nat.reduceAdd, Nat.reduceEqDiff, Nat.reduceMul, Nat.reduceSub, Nat.reduceLeDiff, Nat.reduceLT, Int.reduceToNat, Int.reduceLE, Int.reduceLT, Int.reduceEq, UInt8.reduceOfNat, List.getElem?_map, Int.toNat_natCast, pMinmax, pMinmax2, hx, hy, byteLV, e1, e2, e3, hmm, e4]
    rw [if_neg (by omega)]
    refine nxtP_ite (fun h => ?_) (fun h => ?_)
    · simp only [NxtP, exIf, go_sem, ↓reduceIte, reduceCtorEq, upd_ne, back_new (no_at), Nat.reduceAdd, Nat.reduceEqDiff, Nat.reduceMul, Nat.reduceSub, Nat.reduceLeDiff, Nat.reduceLT, Int.reduceToNat, Int.reduceLE, Int.reduceLT, Int.reduceEq, UInt8.reduceOfNat]
      exact ⟨_, rfl⟩
    · exact ⟨k - 1, by omega, i + 1, rfl, by omega⟩
  · simp only [NxtP, exIf, go_sem, ↓reduceIte, reduceCtorEq, upd_ne, back_new (no_at), Nat.reduceAdd, Nat.reduceEqDiff, Nat.reduceMul, Nat.reduceSub, Nat.reduceLeDiff, Nat.reduceLT, Int.reduceToNat, Int.reduceLE, Int.reduceLT, Int.reduceEq, UInt8.reduceOfNat]
    exact ⟨_, rfl⟩
theorem ev_right6 (a : List UInt8) (m : Int) (hm : 0 ≤ m ∧ m ≤ 128) (ha : a.length = 16) : ∃ r, S.ev (n + 2) id_class_right6 [.agg [.bytes a, .int .i64 m]] none = some (.bool r, none) := by
  rw [Sys.step hS.h_class_right6, F_class_right6_eq]
  unfold F_class_right6
  obtain ⟨r, hr⟩ := ev_bareC hS n a m hm ha
  have ht : a.take 16 = a := List.take_of_length_le (by omega)
  (try simp only [guard_merge, or_merge, and_merge, or_pick, and_pick, guard_or, guard_and]); simp only [to_ob]
  simp only [go_sem, ↓reduceIte, reduceCtorEq, upd_ne, back_new (no_at), Nat.reduceAdd, Nat.reduceEqDiff, Nat.reduceMul, Nat.reduceSub, Nat.reduceLeDiff, Nat.reduceLT, Int.reduceToNat, Int.reduceLE, Int.reduceLT, Int.reduceEq, UInt8.reduceOfNat, List.getElem?_map, Int.toNat_natCast, ha, ht, hm.1, hm.2, hr]
  exact ⟨_, rfl⟩
theorem ev_Holds6 (a b : List UInt8) (m : Int) (hm : 0 ≤ m ∧ m ≤ 128) (ha : a.length = 16) (hb : b.length = 16) : ∃ r, S.ev (n + 3) id_class_Holds6 [.agg [.bytes a, .int .i64 m], .bytes b] none = some (.bool r, none) := by
  rw [Sys.step hS.h_class_Holds6, F_class_Holds6_eq]
  unfold F_class_Holds6
  obtain ⟨r, hr⟩ := ev_right6 hS n a m hm ha
  obtain ⟨q, hq⟩ := ev_holdsC hS (n + 1) a b m hm ha hb
  have ht : a.take 16 = a := List.take_of_length_le (by omega)
  have ht2 : b.take 16 = b := List.take_of_length_le (by omega)
  (try simp only [guard_merge, or_merge, and_merge, or_pick, and_pick, guard_or, guard_and]); simp only [to_ob]
  cases r
  · simp only [go_sem, ↓reduceIte, reduceCtorEq, upd_ne, back_new (no_at), Nat.reduceAdd, Nat.reduceEqDiff, Nat.reduceMul, Nat.reduceSub, Nat.reduceLeDiff, Nat.reduceLT, Int.reduceToNat, Int.reduceLE, Int.reduceLT, Int.reduceEq, UInt8.reduceOfNat, List.getElem?_map, Int.toNat_natCast, ha, hb, ht, ht2, hr]
    exact ⟨_, rfl⟩
  · simp only [go_sem, ↓reduceIte, reduceCtorEq, upd_ne, back_new (no_at), Nat.reduceAdd, Nat.reduceEqDiff, Nat.reduceMul, Nat.reduceSub, Nat.reduceLeDiff, Nat.reduceLT, Int.reduceToNat, Int.reduceLE, Int.reduceLT, Int.reduceEq, UInt8.reduceOfNat, List.getElem?_map, Int.toNat_natCast, ha, hb, ht, ht2, hr, hq]
    exact ⟨_, rfl⟩
theorem ev_mar6 (a : List UInt8) (ha : a.length = 16) : ∃ r, S.ev (n + 4) id_class_Martian6 [.bytes a] none = some (.bool r, none) := by
  rw [Sys.step hS.h_class_Martian6, F_class_Martian6_eq]
  unfold F_class_Martian6
  (try simp only [guard_merge, or_merge, and_merge, or_pick, and_pick, guard_or, guard_and]); simp only [to_ob]
  simp only [go_sem, ↓reduceIte, reduceCtorEq, upd_ne, back_new (no_at), Nat.reduceAdd, Nat.reduceEqDiff, Nat.reduceMul, Nat.reduceSub, Nat.reduceLeDiff, Nat.reduceLT, Int.reduceToNat, Int.reduceLE, Int.reduceLT, Int.reduceEq, UInt8.reduceOfNat, List.getElem?_map, Int.toNat_natCast, ha]
  refine while_ruleP (fun x => ∃ b, x = some (LV.bool b, none)) (fun k q => ∃ i : Nat, q = ([LV.bool false, LV.int .i64 (i : Int)], noSlots) ∧ i + k = 5) 5 ⟨0, rfl, by omega⟩ ?_
  rintro k q ⟨i, rfl, hi⟩
  simp only [go_sem, ↓reduceIte, reduceCtorEq, upd_ne, back_new (no_at), Nat.reduceAdd, Nat.reduceEqDiff, Nat.reduceMul, Nat.reduceSub, Nat.reduceLeDiff, Nat.reduceLT, Int.reduceToNat, Int.reduceLE, Int.reduceLT, Int.reduceEq, UInt8.reduceOfNat]
  refine nxtP_ite (fun h => ?_) (fun h => ?_)
  · have hL : ∃ (b : List UInt8) (m : Int), b.length = 16 ∧ (0 ≤ m ∧ m ≤ 128) ∧ ([LV.agg [LV.bytes [0, 0, 0, 0, 0, 0, 0, 0, 0, 0, 0, 0, 0, 0, 0, 0], LV.int IntKind.i64 128],
                        LV.agg [LV.bytes [0, 0, 0, 0, 0, 0, 0, 0, 0, 0, 0, 0, 0, 0, 0, 1], LV.int IntKind.i64 128],
                        LV.agg [LV.bytes [0, 0, 0, 0, 0, 0, 0, 0, 0, 0, 255, 255, 0, 0, 0, 0], LV.int IntKind.i64 96],
                        LV.agg [LV.bytes [254, 128, 0, 0, 0, 0, 0, 0, 0, 0, 0, 0, 0, 0, 0, 0], LV.int IntKind.i64 10],
                        LV.agg [LV.bytes [255, 0, 0, 0, 0, 0, 0, 0, 0, 0, 0, 0, 0, 0, 0, 0], LV.int IntKind.i64 8]] : List LV)[i]? = some (.agg [.bytes b, .int .i64 m]) := by
      have h5 : i = 0 ∨ i = 1 ∨ i = 2 ∨ i = 3 ∨ i = 4 := by omega
      rcases h5 with rfl | rfl | rfl | rfl | rfl <;> exact ⟨_, _, rfl, by omega, rfl⟩
    obtain ⟨b, m, hb, hm, hx⟩ := hL
    obtain ⟨r, hr⟩ := ev_Holds6 hS n b a m hm hb ha
    have e1 : IntKind.i64.wrap ((i : Int) + 1) = ((i + 1 : Nat) : Int) := by rw [wrap_id (by omega) (by omega)]; omega
    cases r
    · simp only [go_sem, ↓reduceIte, reduceCtorEq, upd_ne, back_new (no_at), Nat.reduceAdd, Nat.reduceEqDiff, Nat.reduceMul, Nat.reduceSub, Nat.reduceLeDiff, Nat.reduceLT, Int.reduceToNat, Int.reduceLE, Int.reduceLT, Int.reduceEq, UInt8.reduceOfNat, List.getElem?_map, Int.toNat_natCast, hx, hb, hr, ha, e1]
      exact ⟨k - 1, by omega, i + 1, rfl, by omega⟩
    · simp only [go_sem, ↓reduceIte, reduceCtorEq, upd_ne, back_new (no_at), Nat.reduceAdd, Nat.reduceEqDiff, Nat.reduceMul, Nat.reduceSub, Nat.reduceLeDiff, Nat.reduceLT, Int.reduceToNat, Int.reduceLE, Int.reduceLT, Int.reduceEq, UInt8.reduceOfNat, List.getElem?_map, Int.toNat_natCast, hx, hb, hr, ha, e1, NxtP, exIf]
      exact ⟨_, rfl⟩
  · simp only [NxtP, exIf, go_sem, ↓reduceIte, reduceCtorEq, upd_ne, back_new (no_at), Nat.reduceAdd, Nat.reduceEqDiff, Nat.reduceMul, Nat.reduceSub, Nat.reduceLeDiff, Nat.reduceLT, Int.reduceToNat, Int.reduceLE, Int.reduceLT, Int.reduceEq, UInt8.reduceOfNat]
    exact ⟨_, rfl⟩
end
end Go.Ev

namespace Go.Ev
set_option linter.unusedSimpArgs false
set_option linter.unusedVariables false
set_option maxRecDepth 4000
set_option maxHeartbeats 1000000
def turn (u : UInt8) (s : List UInt8) : List UInt8 := s.map (· ^^^ u)
theorem turn_len (u : UInt8) (s : List UInt8) : (turn u s).length = s.length := by simp [turn]
theorem turn_get {u : UInt8} {s : List UInt8} {i : Nat} {c : UInt8} (h : s[i]? = some c) : (turn u s)[i]? = some (c ^^^ u) := by simp [turn, h]
theorem not_tab : ∀ c : Fin 256, c.val ^^^ 255 = 255 - c.val := by decide +kernel
theorem turn_sum : ∀ (s : List UInt8), s.length % 2 = 0 → sumAt 0 (turn 255 s) + sumAt 0 s = 65535 * (s.length / 2)
  | [], _ => rfl
  | [_], h => by simp at h
  | a :: b :: s, h => by
    have hi := turn_sum s (by simp at h; omega)
    have h1 : (a ^^^ 255).toNat = 255 - a.toNat := by rw [UInt8.toNat_xor]; exact not_tab ⟨a.toNat, a.toNat_lt⟩
    have h2 : (b ^^^ 255).toNat = 255 - b.toNat := by rw [UInt8.toNat_xor]; exact not_tab ⟨b.toNat, b.toNat_lt⟩
    have ha := a.toNat_lt
    have hb := b.toNat_lt
    have e : turn 255 (a :: b :: s) = (a ^^^ 255) :: (b ^^^ 255) :: turn 255 s := rfl
    rw [e]
    simp only [sumAt, sumAt_two, h1, h2, List.length_cons]
    simp
    omega
section
variable {S : Sys} (hS : Has S) (n : Nat)
include hS
theorem ev_addT (u : UInt8) (m p : Nat) (s : List UInt8) (hb : m + 65280 * s.length ≤ 9223372036854775807) (hp : p + s.length ≤ 9223372036854775806) :
    S.ev (n + 1) id_sum_add [.int .i64 (m : Int), .int .i64 (p : Int), .str s, .int .u8 (u.toNat : Int)] none = some (.int .i64 (m + sumAt p (turn u s) : Nat), none) := by
  rw [Sys.step hS.h_sum_add, F_sum_add_eq]
  unfold F_sum_add
  (try simp only [guard_merge, or_merge, and_merge, or_pick, and_pick, guard_or, guard_and]); simp only [to_ob]
  simp only [go_sem, ↓reduceIte, reduceCtorEq, upd_ne, back_new (no_at), Nat.reduceAdd, Nat.reduceEqDiff, Nat.reduceMul, Nat.reduceSub, Nat.reduceLeDiff, Nat.reduceLT, Int.reduceToNat, Int.reduceLE, Int.reduceLT, Int.reduceEq, UInt8.reduceOfNat]
  refine while_rule (fun k q => ∃ x i : Nat, q = ([.int .i64 (x : Int), .int .i64 (i : Int)], noSlots) ∧ i + k = s.length ∧ x + sumAt (p + i) ((turn u s).drop i) = m + sumAt p (turn u s)) s.length ⟨m, 0, rfl, by simp, by simp⟩ ?_
  rintro k q ⟨x, i, rfl, hi, hx⟩
  have hle := sumAt_le (turn u s) p
  rw [turn_len] at hle
  have hul := u.toNat_lt
  simp only [go_sem, ↓reduceIte, reduceCtorEq, upd_ne, back_new (no_at), Nat.reduceAdd, Nat.reduceEqDiff, Nat.reduceMul, Nat.reduceSub, Nat.reduceLeDiff, Nat.reduceLT, Int.reduceToNat, Int.reduceLE, Int.reduceLT, Int.reduceEq, UInt8.reduceOfNat]
  refine nxt_ite (fun h => ?_) (fun h => ?_)
  · have hlt : i < s.length := by omega
    obtain ⟨c, hc⟩ : ∃ c, s[i]? = some c := ⟨s[i], by simp [hlt]⟩
    have htc := turn_get (u := u) hc
    have hlt2 : i < (turn u s).length := by rw [turn_len]; exact hlt
    have hd : (turn u s).drop i = (c ^^^ u) :: (turn u s).drop (i + 1) := by
      rw [List.drop_eq_getElem_cons hlt2]; congr 1; simpa [hlt2] using htc
    have hcl := c.toNat_lt
    have hcu := (c ^^^ u).toNat_lt
    rw [hd] at hx
    simp only [sumAt] at hx
    have e0 : bitsOf .xor .u8 (c.toNat : Int) (u.toNat : Int) = ((c ^^^ u).toNat : Int) := by
      rw [bits_xor_nat (by simp [IntKind.max, IntKind.signed, IntKind.bits]; omega) (by simp [IntKind.max, IntKind.signed, IntKind.bits]; omega), UInt8.toNat_xor]
    generalize (c ^^^ u) = d at *
    have e1 : IntKind.i64.wrap (d.toNat : Int) = (d.toNat : Int) := wrap_id (by omega) (by omega)
    have e2 : IntKind.i64.wrap ((p : Int) + (i : Int)) = ((p + i : Nat) : Int) := by rw [wrap_id (by omega) (by omega)]; omega
    have e3 : Int.tmod ((p + i : Nat) : Int) 2 = (((p + i) % 2 : Nat) : Int) := by
      rw [Int.tmod_eq_emod_of_nonneg (by omega)]; omega
    have e4 : IntKind.i64.wrap ((d.toNat : Int) * 2 ^ min 8 64) = ((d.toNat * 256 : Nat) : Int) := by
      rw [show min 8 64 = 8 from rfl, wrap_id (by omega) (by omega)]; omega
    have e6 : IntKind.i64.wrap ((i : Int) + 1) = ((i + 1 : Nat) : Int) := by rw [wrap_id (by omega) (by omega)]; omega
    simp only [go_sem, ↓reduceIte, reduceCtorEq, upd_ne, back_new (no_at), Nat.reduceAdd, Nat.reduceEqDiff, Nat.reduceMul, Nat.reduceSub, Nat.reduceLeDiff, Nat.reduceLT, Int.reduceToNat, Int.reduceLE, Int.reduceLT, Int.reduceEq, UInt8.reduceOfNat, List.getElem?_map, Int.toNat_natCast, hc, e0, e1, e2, e3, e4, e6]
    by_cases hpar : (p + i) % 2 = 0
    · rw [if_pos hpar] at hx
      have e5 : IntKind.i64.wrap ((x : Int) + ((d.toNat * 256 : Nat) : Int)) = ((x + d.toNat * 256 : Nat) : Int) := by
        rw [wrap_id (by omega) (by omega)]; omega
      have hq : (((p + i) % 2 : Nat) : Int) = 0 := by omega
      simp only [go_sem, ↓reduceIte, reduceCtorEq, upd_ne, back_new (no_at), Nat.reduceAdd, Nat.reduceEqDiff, Nat.reduceMul, Nat.reduceSub, Nat.reduceLeDiff, Nat.reduceLT, Int.reduceToNat, Int.reduceLE, Int.reduceLT, Int.reduceEq, UInt8.reduceOfNat, hq, e5]
      exact ⟨k - 1, by omega, _, i + 1, rfl, by omega, by rw [show p + (i + 1) = p + i + 1 by omega]; omega⟩
    · rw [if_neg hpar] at hx
      have e5 : IntKind.i64.wrap ((x : Int) + (d.toNat : Int)) = ((x + d.toNat : Nat) : Int) := by
        rw [wrap_id (by omega) (by omega)]; omega
      have hq : ¬ (((p + i) % 2 : Nat) : Int) = 0 := by omega
      simp only [go_sem, ↓reduceIte, reduceCtorEq, upd_ne, back_new (no_at), Nat.reduceAdd, Nat.reduceEqDiff, Nat.reduceMul, Nat.reduceSub, Nat.reduceLeDiff, Nat.reduceLT, Int.reduceToNat, Int.reduceLE, Int.reduceLT, Int.reduceEq, UInt8.reduceOfNat, hq, e5]
      exact ⟨k - 1, by omega, _, i + 1, rfl, by omega, by rw [show p + (i + 1) = p + i + 1 by omega]; omega⟩
  · rw [List.drop_eq_nil_of_le (by rw [turn_len]; omega)] at hx
    simp only [sumAt, Nat.add_zero] at hx
    simp only [go_sem, ↓reduceIte, reduceCtorEq, upd_ne, back_new (no_at), Nat.reduceAdd, Nat.reduceEqDiff, Nat.reduceMul, Nat.reduceSub, Nat.reduceLeDiff, Nat.reduceLT, Int.reduceToNat, Int.reduceLE, Int.reduceLT, Int.reduceEq, UInt8.reduceOfNat, Nxt, exIf, hx]
theorem ev_even (s : List UInt8) (h : s.length % 2 = 0) : S.ev (n + 1) id_sum_even [.str s] none = some (.str s, none) := by
  rw [Sys.step hS.h_sum_even, F_sum_even_eq]
  unfold F_sum_even
  have e1 : Int.tmod (s.length : Int) 2 = ((s.length % 2 : Nat) : Int) := rfl
  have e2 : ¬ ((s.length % 2 : Nat) : Int) = 1 := by omega
  (try simp only [guard_merge, or_merge, and_merge, or_pick, and_pick, guard_or, guard_and]); simp only [to_ob]
  simp only [go_sem, ↓reduceIte, reduceCtorEq, upd_ne, back_new (no_at), Nat.reduceAdd, Nat.reduceEqDiff, Nat.reduceMul, Nat.reduceSub, Nat.reduceLeDiff, Nat.reduceLT, Int.reduceToNat, Int.reduceLE, Int.reduceLT, Int.reduceEq, UInt8.reduceOfNat, e1, e2]
theorem ev_Update (x : Nat) (o w : List UInt8) (hx : x ≤ 65535) (ho : o.length % 2 = 0) (h1 : o.length ≤ 1000000) (h2 : w.length ≤ 1000000) :
    S.ev (n + 2) id_sum_Update [.int .i64 (x : Int), .str o, .str w] none = some (.int .i64 (65535 - (ones (ones (65535 - x + sumAt 0 (turn 255 o)) + sumAt 0 w) : Nat)), none) := by
  rw [Sys.step hS.h_sum_Update, F_sum_Update_eq]
  unfold F_sum_Update
  have l1 := sumAt_le (turn 255 o) 0
  rw [turn_len] at l1
  have l2 := sumAt_le w 0
  have l3 := ones_le (65535 - x + sumAt 0 (turn 255 o))
  have l4 := ones_le (ones (65535 - x + sumAt 0 (turn 255 o)) + sumAt 0 w)
  have a1 := ev_even hS n o ho
  have a2 : S.ev (n + 1) id_sum_add [.int .i64 ((65535 - x : Nat) : Int), .int .i64 0, .str o, .int .u8 255] none = some (.int .i64 (65535 - x + sumAt 0 (turn 255 o) : Nat), none) := ev_addT hS n 255 (65535 - x) 0 o (by omega) (by omega)
  have a3 := ev_fold hS n (65535 - x + sumAt 0 (turn 255 o)) (by omega)
  have a4 : S.ev (n + 1) id_sum_add [.int .i64 (ones (65535 - x + sumAt 0 (turn 255 o)) : Nat), .int .i64 0, .str w, .int .u8 0] none = some (.int .i64 (ones (65535 - x + sumAt 0 (turn 255 o)) + sumAt 0 w : Nat), none) := ev_add hS n _ 0 w (by omega) (by omega)
  have a5 := ev_fold hS n (ones (65535 - x + sumAt 0 (turn 255 o)) + sumAt 0 w) (by omega)
  have e1 : bitsOf .and .i64 (x : Int) 65535 = (x : Int) := by
    rw [show (65535 : Int) = ((2 ^ 16 - 1 : Nat) : Int) from rfl, bits_mask 16 (by omega) (by simp [IntKind.max, IntKind.signed, IntKind.bits]; omega) (by decide)]
    show (x : Int) % ((65536 : Nat) : Int) = x
    omega
  have e2 : IntKind.i64.wrap (65535 - (x : Int)) = ((65535 - x : Nat) : Int) := by rw [wrap_id (by omega) (by omega)]; omega
  have e3 : IntKind.i64.wrap (65535 - ((ones (ones (65535 - x + sumAt 0 (turn 255 o)) + sumAt 0 w) : Nat) : Int)) = 65535 - ((ones (ones (65535 - x + sumAt 0 (turn 255 o)) + sumAt 0 w) : Nat) : Int) := wrap_id (by omega) (by omega)
  (try simp only [guard_merge, or_merge, and_merge, or_pick, and_pick, guard_or, guard_and]); simp only [to_ob]
  simp only [go_sem, ↓reduceIte, reduceCtorEq, upd_ne, back_new (no_at), Nat.reduceAdd, Nat.reduceEqDiff, Nat.reduceMul, Nat.reduceSub, Nat.reduceLeDiff, Nat.reduceLT, Int.reduceToNat, Int.reduceLE, Int.reduceLT, Int.reduceEq, UInt8.reduceOfNat, a1, a2, a3, a4, a5, e1, e2, e3]
end
end Go.Ev

namespace Go.Ev
set_option linter.unusedSimpArgs false
set_option linter.unusedVariables false
set_option maxRecDepth 10000
set_option maxHeartbeats 8000000
def updN (x : Nat) (o w : List UInt8) : Nat := 65535 - ones (ones (65535 - x + sumAt 0 (turn 255 o)) + sumAt 0 w)
def upY (x : Nat) (o w : List UInt8) (none : Bool) : Nat := if none = true ∧ updN x o w = 0 then 65535 else updN x o w
def upF (d : List UInt8) (i : Nat) (o w : List UInt8) (none : Bool) : List UInt8 :=
  if d.length < i + 2 then d else if none = true ∧ wAt d i = 0 then d else d.take i ++ (beB 2 (upY (wAt d i) o w none) ++ d.drop (i + 2))
def poF (udp : Bool) (d o w : List UInt8) (p q : Nat) : List UInt8 :=
  if d.length < 4 then d else if udp = true then upF (beB 2 p ++ (beB 2 q ++ d.drop 4)) 6 (o ++ d.take 4) (w ++ (beB 2 p ++ beB 2 q)) true else upF (beB 2 p ++ (beB 2 q ++ d.drop 4)) 16 (o ++ d.take 4) (w ++ (beB 2 p ++ beB 2 q)) false
section
variable {S : Sys} (hS : Has S) (n : Nat)
include hS
theorem ev_upd (d : List UInt8) (i : Nat) (o w : List UInt8) (none : Bool) (hd : d.length ≤ 1000000) (hi : i ≤ 1000) (ho : o.length % 2 = 0) (h1 : o.length ≤ 1000000) (h2 : w.length ≤ 1000000) :
    S.ev (n + 3) id_fault_update [.str d, .int .i64 (i : Int), .str o, .str w, .bool none] Option.none = some (.str (upF d i o w none), Option.none) := by
  rw [Sys.step hS.h_fault_update, F_fault_update_eq]
  unfold F_fault_update
  have e1 : IntKind.i64.wrap ((i : Int) + 2) = ((i + 2 : Nat) : Int) := by rw [wrap_id (by omega) (by omega)]; omega
  (try simp only [guard_merge, or_merge, and_merge, or_pick, and_pick, guard_or, guard_and]); simp only [to_ob]
  unfold upF
  by_cases c1 : d.length < i + 2
  · have c1' : (d.length : Int) < ((i + 2 : Nat) : Int) := by omega
    simp only [go_sem, ↓reduceIte, reduceCtorEq, upd_ne, back_new (no_at), Nat.reduceAdd, Nat.reduceEqDiff, Nat.reduceMul, Nat.reduceSub, Nat.reduceLeDiff, Nat.reduceLT, Int.reduceToNat, Int.reduceLE, Int.reduceLT, Int.reduceEq, UInt8.reduceOfNat, c1, c1', e1]
  · have c1' : ¬ (d.length : Int) < ((i + 2 : Nat) : Int) := by omega
    have ga := get_def (s := d) (i := i) (by omega)
    have gb := get_def (s := d) (i := i + 1) (by omega)
    have hal := (d.getD i 0).toNat_lt
    have hbl := (d.getD (i + 1) 0).toNat_lt
    have f1 : IntKind.i64.wrap ((d.getD i 0).toNat : Int) = ((d.getD i 0).toNat : Int) := wrap_id (by omega) (by omega)
    have f2 : IntKind.i64.wrap ((d.getD (i + 1) 0).toNat : Int) = ((d.getD (i + 1) 0).toNat : Int) := wrap_id (by omega) (by omega)
    have f3 : IntKind.i64.wrap ((i : Int) + 1) = ((i + 1 : Nat) : Int) := by rw [wrap_id (by omega) (by omega)]; omega
    have f4 : IntKind.i64.wrap (((d.getD i 0).toNat : Int) * 2 ^ min 8 64) = (((d.getD i 0).toNat * 256 : Nat) : Int) := by
      rw [show min 8 64 = 8 from rfl, wrap_id (by omega) (by omega)]; omega
    have f5 : bitsOf .or .i64 ((((d.getD i 0).toNat * 256 : Nat)) : Int) ((d.getD (i + 1) 0).toNat : Int) = ((wAt d i : Nat) : Int) := w16_or _ _
    have hw := wAt_le d i
    have hu := ev_Update hS n (wAt d i) o w hw ho h1 h2
    have hon := ones_le (ones (65535 - wAt d i + sumAt 0 (turn 255 o)) + sumAt 0 w)
    have hu : S.ev (n + 2) id_sum_Update [.int .i64 ((wAt d i : Nat) : Int), .str o, .str w] Option.none = some (.int .i64 ((updN (wAt d i) o w : Nat) : Int), Option.none) := by
      rw [hu]; unfold updN; congr 3; omega
    have hul : updN (wAt d i) o w ≤ 65535 := by unfold updN; omega
    have g1 : S.ev (n + 2) id_fault_big [.int .i64 ((updN (wAt d i) o w : Nat) : Int), .int .i64 2] Option.none = some (.str (beB 2 (updN (wAt d i) o w)), Option.none) := ev_bigF hS n _ 2 (by omega) (lt2 (by omega) (by omega)) ⟨by omega, by omega⟩
    have g2 : S.ev (n + 2) id_fault_big [.int .i64 65535, .int .i64 2] Option.none = some (.str (beB 2 65535), Option.none) := ev_bigF hS n 65535 2 (by omega) (lt2 (by omega) (by omega)) ⟨by omega, by omega⟩
    have l1 : i ≤ d.length := by omega
    have l2 : i + 2 ≤ d.length := by omega
    have t1 : (d.drop (i + 2)).take (d.length - (i + 2)) = d.drop (i + 2) := List.take_of_length_le (by simp)
    have hl := beB_len
    have m1 : ∀ y, i ≤ 2000 → i + y ≤ 2000000 → i + y ≤ maxStr := fun y _ h => by unfold maxStr; omega
    have hlt : (d.take i).length = i := by rw [List.length_take]; omega
    unfold upY
    generalize hU : updN (wAt d i) o w = U at *
    have x1 : i + 2 ≤ maxStr := by unfold maxStr; omega
    have x2 : i + 2 + (d.length - (i + 2)) ≤ maxStr := by unfold maxStr; omega
    cases none
    · simp only [go_sem, ↓reduceIte, reduceCtorEq, upd_ne, back_new (no_at), Nat.reduceAdd, Nat.reduceEqDiff, Nat.reduceMul, Nat.reduceSub, Nat.reduceLeDiff, Nat.reduceLT, Int.reduceToNat, Int.reduceLE, Int.reduceLT, Int.reduceEq, UInt8.reduceOfNat, List.getElem?_map, Int.toNat_natCast, c1, c1', e1, ga, gb, byteLV, f1, f2, f3, f4, f5, hu, g1, l1, l2, t1, hl, hlt, x1, x2, List.length_append, List.length_drop, List.append_assoc, Nat.sub_zero, List.drop_zero, false_and, Bool.false_eq_true]
    · by_cases c2 : wAt d i = 0
      · have c2' : ((wAt d i : Nat) : Int) = 0 := by omega
        simp only [go_sem, ↓reduceIte, reduceCtorEq, upd_ne, back_new (no_at), Nat.reduceAdd, Nat.reduceEqDiff, Nat.reduceMul, Nat.reduceSub, Nat.reduceLeDiff, Nat.reduceLT, Int.reduceToNat, Int.reduceLE, Int.reduceLT, Int.reduceEq, UInt8.reduceOfNat, List.getElem?_map, Int.toNat_natCast, c1, c1', e1, ga, gb, byteLV, f1, f2, f3, f4, f5, c2, c2', true_and]
      · have c2' : ¬ ((wAt d i : Nat) : Int) = 0 := by omega
        by_cases c3 : U = 0
        · have c3' : ((U : Nat) : Int) = 0 := by omega
          simp only [go_sem, ↓reduceIte, reduceCtorEq, upd_ne, back_new (no_at), Nat.reduceAdd, Nat.reduceEqDiff, Nat.reduceMul, Nat.reduceSub, Nat.reduceLeDiff, Nat.reduceLT, Int.reduceToNat, Int.reduceLE, Int.reduceLT, Int.reduceEq, UInt8.reduceOfNat, List.getElem?_map, Int.toNat_natCast, c1, c1', e1, ga, gb, byteLV, f1, f2, f3, f4, f5, c2, c2', c3, c3', hu, g2, l1, l2, t1, hl, hlt, x1, x2, List.length_append, List.length_drop, List.append_assoc, Nat.sub_zero, List.drop_zero, true_and]
        · have c3' : ¬ ((U : Nat) : Int) = 0 := by omega
          simp only [go_sem, ↓reduceIte, reduceCtorEq, upd_ne, back_new (no_at), Nat.reduceAdd, Nat.reduceEqDiff, Nat.reduceMul, Nat.reduceSub, Nat.reduceLeDiff, Nat.reduceLT, Int.reduceToNat, Int.reduceLE, Int.reduceLT, Int.reduceEq, UInt8.reduceOfNat, List.getElem?_map, Int.toNat_natCast, c1, c1', e1, ga, gb, byteLV, f1, f2, f3, f4, f5, c2, c2', c3, c3', hu, g1, l1, l2, t1, hl, hlt, x1, x2, List.length_append, List.length_drop, List.append_assoc, Nat.sub_zero, List.drop_zero, true_and]
end
end Go.Ev

namespace Go.Ev
set_option linter.unusedSimpArgs false
set_option linter.unusedVariables false
set_option maxRecDepth 10000
set_option maxHeartbeats 8000000
theorem upF_len {d : List UInt8} {i : Nat} {o w : List UInt8} {none : Bool} : (upF d i o w none).length = d.length := by
  unfold upF
  split
  · rfl
  · split
    · rfl
    · simp only [List.length_append, beB_len, List.length_take, List.length_drop]; omega
theorem poF_len {udp : Bool} {d o w : List UInt8} {p q : Nat} : (poF udp d o w p q).length = d.length := by
  unfold poF
  split
  · rfl
  · split
    · rw [upF_len]; simp only [List.length_append, beB_len, List.length_drop]; omega
    · rw [upF_len]; simp only [List.length_append, beB_len, List.length_drop]; omega
section
variable {S : Sys} (hS : Has S) (n : Nat)
include hS
theorem ev_ported (pt : Int) (d o w : List UInt8) (p q : Nat) (hd : d.length ≤ 900000) (ho : o.length % 2 = 0) (h1 : o.length ≤ 1000) (h2 : w.length ≤ 1000) (hp : p ≤ 65535) (hq : q ≤ 65535) :
    S.ev (n + 4) id_fault_ported [.int .i64 pt, .str d, .str o, .str w, .int .i64 (p : Int), .int .i64 (q : Int)] none = some (.str (poF (decide (pt = 17)) d o w p q), none) := by
  rw [Sys.step hS.h_fault_ported, F_fault_ported_eq]
  unfold F_fault_ported
  (try simp only [guard_merge, or_merge, and_merge, or_pick, and_pick, guard_or, guard_and]); simp only [to_ob]
  unfold poF
  by_cases c1 : d.length < 4
  · have c1' : (d.length : Int) < 4 := by omega
    simp only [go_sem, ↓reduceIte, reduceCtorEq, upd_ne, back_new (no_at), Nat.reduceAdd, Nat.reduceEqDiff, Nat.reduceMul, Nat.reduceSub, Nat.reduceLeDiff, Nat.reduceLT, Int.reduceToNat, Int.reduceLE, Int.reduceLT, Int.reduceEq, UInt8.reduceOfNat, c1, c1']
  · have c1' : ¬ (d.length : Int) < 4 := by omega
    have g1 : S.ev (n + 3) id_fault_big [.int .i64 (p : Int), .int .i64 2] none = some (.str (beB 2 p), none) := ev_bigF hS (n + 1) p 2 (by omega) (lt2 (by omega) (by omega)) ⟨by omega, by omega⟩
    have g2 : S.ev (n + 3) id_fault_big [.int .i64 (q : Int), .int .i64 2] none = some (.str (beB 2 q), none) := ev_bigF hS (n + 1) q 2 (by omega) (lt2 (by omega) (by omega)) ⟨by omega, by omega⟩
    have hl := beB_len
    have l1 : 4 ≤ d.length := by omega
    have t1 : (d.drop 4).take (d.length - 4) = d.drop 4 := List.take_of_length_le (by simp)
    have hl4 : (d.take 4).length = 4 := by rw [List.length_take]; omega
    have x1 : 2 + 2 ≤ maxStr := by decide
    have x2 : 4 + (d.length - 4) ≤ maxStr := by unfold maxStr; omega
    have x3 : o.length + 4 ≤ maxStr := by unfold maxStr; omega
    have x4 : w.length + 4 ≤ maxStr := by unfold maxStr; omega
    have u1 := ev_upd hS n (beB 2 p ++ (beB 2 q ++ d.drop 4)) 6 (o ++ d.take 4) (w ++ (beB 2 p ++ beB 2 q)) true (by simp only [List.length_append, beB_len, List.length_drop]; omega) (by omega) (by simp only [List.length_append, hl4]; omega) (by simp only [List.length_append, hl4]; omega) (by simp only [List.length_append, beB_len]; omega)
    have u1 : S.ev (n + 3) id_fault_update [.str (beB 2 p ++ (beB 2 q ++ d.drop 4)), .int .i64 6, .str (o ++ d.take 4), .str (w ++ (beB 2 p ++ beB 2 q)), .bool true] none = _ := u1
    have u2 := ev_upd hS n (beB 2 p ++ (beB 2 q ++ d.drop 4)) 16 (o ++ d.take 4) (w ++ (beB 2 p ++ beB 2 q)) false (by simp only [List.length_append, beB_len, List.length_drop]; omega) (by omega) (by simp only [List.length_append, hl4]; omega) (by simp only [List.length_append, hl4]; omega) (by simp only [List.length_append, beB_len]; omega)
    have u2 : S.ev (n + 3) id_fault_update [.str (beB 2 p ++ (beB 2 q ++ d.drop 4)), .int .i64 16, .str (o ++ d.take 4), .str (w ++ (beB 2 p ++ beB 2 q)), .bool false] none = _ := u2
    by_cases c2 : pt = 17
    · simp only [go_sem, ↓reduceIte, reduceCtorEq, upd_ne, back_new (no_at), Nat.reduceAdd, Nat.reduceEqDiff, Nat.reduceMul, Nat.reduceSub, Nat.reduceLeDiff, Nat.reduceLT, Int.reduceToNat, Int.reduceLE, Int.reduceLT, Int.reduceEq, UInt8.reduceOfNat, List.getElem?_map, Int.toNat_natCast, c1, c1', c2, g1, g2, u1, l1, t1, hl, hl4, x1, x2, x3, x4, List.length_append, List.length_drop, List.append_assoc, Nat.sub_zero, List.drop_zero, decide_true]
    · simp only [go_sem, ↓reduceIte, reduceCtorEq, upd_ne, back_new (no_at), Nat.reduceAdd, Nat.reduceEqDiff, Nat.reduceMul, Nat.reduceSub, Nat.reduceLeDiff, Nat.reduceLT, Int.reduceToNat, Int.reduceLE, Int.reduceLT, Int.reduceEq, UInt8.reduceOfNat, List.getElem?_map, Int.toNat_natCast, c1, c1', c2, g1, g2, u2, l1, t1, hl, hl4, x1, x2, x3, x4, List.length_append, List.length_drop, List.append_assoc, Nat.sub_zero, List.drop_zero, decide_false, Bool.false_eq_true]
theorem ev_turn6p {tos id ttl pt at' : Int} {df mo : Bool} {fr to op da a b : List UInt8} {claim : Int} {p q : Nat} (hfr : fr.length = 4) (hto : to.length = 4) (ha : a.length = 16) (hb : b.length = 16) (hat : ¬ 0 < at') (hpt : pt = 6 ∨ pt = 17) (hd : da.length ≤ 900000) (hp : p ≤ 65535) (hq : q ≤ 65535) :
    S.ev (n + 5) id_fault_turn6 [ip4LV tos id ttl pt at' df mo fr to op da, .int .i64 claim, .agg [.bytes a, .int .i64 (p : Int)], .agg [.bytes b, .int .i64 (q : Int)]] none = some (.str (poF (decide (pt = 17)) da (fr ++ to) (a ++ b) p q), none) := by
  rw [Sys.step hS.h_fault_turn6, F_fault_turn6_eq]
  unfold F_fault_turn6
  have hP := ev_ported hS n pt da (fr ++ to) (a ++ b) p q hd (by simp [hfr, hto]) (by simp [hfr, hto]) (by simp [ha, hb]) hp hq
  have x1 : 4 + 4 ≤ maxStr := by decide
  have x2 : 16 + 16 ≤ maxStr := by decide
  have t1 : fr.take 4 = fr := List.take_of_length_le (by omega)
  have t2 : to.take 4 = to := List.take_of_length_le (by omega)
  have t3 : a.take 16 = a := List.take_of_length_le (by omega)
  have t4 : b.take 16 = b := List.take_of_length_le (by omega)
  (try simp only [guard_merge, or_merge, and_merge, or_pick, and_pick, guard_or, guard_and]); simp only [to_ob]
  rcases hpt with rfl | rfl
  · simp only [go_sem, ↓reduceIte, reduceCtorEq, upd_ne, back_new (no_at), Nat.reduceAdd, Nat.reduceEqDiff, Nat.reduceMul, Nat.reduceSub, Nat.reduceLeDiff, Nat.reduceLT, Int.reduceToNat, Int.reduceLE, Int.reduceLT, Int.reduceEq, UInt8.reduceOfNat, List.getElem?_map, Int.toNat_natCast, hfr, hto, ha, hb, hat, hP, x1, x2, t1, t2, t3, t4, toBytes_byteLV, List.length_append]
  · simp only [go_sem, ↓reduceIte, reduceCtorEq, upd_ne, back_new (no_at), Nat.reduceAdd, Nat.reduceEqDiff, Nat.reduceMul, Nat.reduceSub, Nat.reduceLeDiff, Nat.reduceLT, Int.reduceToNat, Int.reduceLE, Int.reduceLT, Int.reduceEq, UInt8.reduceOfNat, List.getElem?_map, Int.toNat_natCast, hfr, hto, ha, hb, hat, hP, x1, x2, t1, t2, t3, t4, toBytes_byteLV, List.length_append]
end
end Go.Ev

namespace Go.Ev
set_option linter.unusedSimpArgs false
set_option linter.unusedVariables false
set_option maxRecDepth 10000
set_option maxHeartbeats 8000000
def ps6 (a b : List UInt8) (next len : Nat) : List UInt8 := a ++ (b ++ (beB 4 len ++ (0 :: 0 :: 0 :: beB 1 next)))
theorem ps6_len {a b : List UInt8} {x l : Nat} : (ps6 a b x l).length = a.length + b.length + 8 := by unfold ps6; simp [beB_len]; omega
def ecD (d : List UInt8) (k id : Nat) : List UInt8 := beB 1 k ++ (0 :: ((d.drop 2).take 2 ++ (beB 2 id ++ d.drop 6)))
def ecF (d o w : List UInt8) (k id : Nat) : List UInt8 := upF (ecD d k id) 2 (o ++ (d.take 2 ++ (d.drop 4).take 2)) (w ++ (beB 1 k ++ (0 :: beB 2 id))) false
theorem ecD_len {d : List UInt8} {k id : Nat} (h : 6 ≤ d.length) : (ecD d k id).length = d.length := by
  unfold ecD; simp only [List.length_append, List.length_cons, beB_len, List.length_take, List.length_drop]; omega
theorem ecF_len {d o w : List UInt8} {k id : Nat} (h : 6 ≤ d.length) : (ecF d o w k id).length = d.length := by unfold ecF; rw [upF_len, ecD_len h]
def k46 (x : Nat) : Nat := if x = 8 then 128 else 129
def isE4 (d : List UInt8) : Bool := decide (8 ≤ d.length) && (decide (bAt d 0 = 8 ∨ bAt d 0 = 0) && decide (bAt d 1 = 0))
def tn6 (pt at' : Int) (d fr to a b : List UInt8) (claim p q : Nat) : List UInt8 :=
  if 0 < at' then d else if pt = 6 ∨ pt = 17 then poF (decide (pt = 17)) d (fr ++ to) (a ++ b) p q else
  if pt = 1 ∧ isE4 d = true then ecF d [] (ps6 a b 58 claim) (k46 (bAt d 0)) p else d
theorem tn6_len {pt at' : Int} {d fr to a b : List UInt8} {claim p q : Nat} : (tn6 pt at' d fr to a b claim p q).length = d.length := by
  unfold tn6
  split
  · rfl
  · split
    · exact poF_len
    · split
      · rename_i h
        have := h.2
        unfold isE4 at this
        simp only [Bool.and_eq_true, decide_eq_true_eq] at this
        exact ecF_len (by omega)
      · rfl
section
variable {S : Sys} (hS : Has S) (n : Nat)
include hS
theorem ev_sbig (x m : Nat) (hm : m = 1 ∨ m = 2 ∨ m = 4) (hx : x < 256 ^ m) : S.ev (n + 2) id_sum_big [.int .i64 (x : Int), .int .i64 (m : Int)] none = some (.str (beB m x), none) := by
  rw [Sys.step hS.h_sum_big, F_sum_big_eq]
  unfold F_sum_big
  rcases hm with rfl | rfl | rfl
  · have h1 := ev_Big hS n (x : Int) 1 (by omega) ⟨by omega, by omega⟩
    unfold bigR at h1
    rw [if_pos ⟨by omega, by simp at hx ⊢; omega⟩, Int.toNat_natCast] at h1
    have e1 : IntKind.i64.wrap (8 * 1) = 8 := wrap_id (by omega) (by omega)
    have e2 : IntKind.i64.wrap (1 * 2 ^ min 8 64) = 256 := by rfl
    have e3 : IntKind.i64.wrap (256 - 1) = 255 := wrap_id (by omega) (by omega)
    have e4 : bitsOf .and .i64 (x : Int) 255 = (x : Int) := by
      rw [show (255 : Int) = ((2 ^ 8 - 1 : Nat) : Int) from rfl, bits_mask 8 (by omega) (show (x : Int) ≤ 9223372036854775807 by omega) (by decide)]; omega
    have h1 : S.ev (n + 1) id_num_Big [.int .i64 (x : Int), .int .i64 1] none = _ := h1
    (try simp only [guard_merge, or_merge, and_merge, or_pick, and_pick, guard_or, guard_and]); simp only [to_ob]
    simp only [go_sem, ↓reduceIte, reduceCtorEq, upd_ne, back_new (no_at), Nat.reduceAdd, Nat.reduceEqDiff, Nat.reduceMul, Nat.reduceSub, Nat.reduceLeDiff, Nat.reduceLT, Int.reduceToNat, Int.reduceLE, Int.reduceLT, Int.reduceEq, UInt8.reduceOfNat, List.getElem?_map, Int.toNat_natCast, Int.cast_ofNat_Int, Int.natCast_one, Int.ofNat_one, e1, e2, e3, e4, h1]
  · have h1 := ev_Big hS n (x : Int) 2 (by omega) ⟨by omega, by omega⟩
    unfold bigR at h1
    rw [if_pos ⟨by omega, by simp at hx ⊢; omega⟩, Int.toNat_natCast] at h1
    have e1 : IntKind.i64.wrap (8 * 2) = 16 := wrap_id (by omega) (by omega)
    have e2 : IntKind.i64.wrap (1 * 2 ^ min 16 64) = 65536 := by rfl
    have e3 : IntKind.i64.wrap (65536 - 1) = 65535 := wrap_id (by omega) (by omega)
    have e4 : bitsOf .and .i64 (x : Int) 65535 = (x : Int) := by
      rw [show (65535 : Int) = ((2 ^ 16 - 1 : Nat) : Int) from rfl, bits_mask 16 (by omega) (show (x : Int) ≤ 9223372036854775807 by omega) (by decide)]; omega
    have h1 : S.ev (n + 1) id_num_Big [.int .i64 (x : Int), .int .i64 2] none = _ := h1
    (try simp only [guard_merge, or_merge, and_merge, or_pick, and_pick, guard_or, guard_and]); simp only [to_ob]
    simp only [go_sem, ↓reduceIte, reduceCtorEq, upd_ne, back_new (no_at), Nat.reduceAdd, Nat.reduceEqDiff, Nat.reduceMul, Nat.reduceSub, Nat.reduceLeDiff, Nat.reduceLT, Int.reduceToNat, Int.reduceLE, Int.reduceLT, Int.reduceEq, UInt8.reduceOfNat, List.getElem?_map, Int.toNat_natCast, Int.cast_ofNat_Int, Int.natCast_one, Int.ofNat_one, e1, e2, e3, e4, h1]
  · have h1 := ev_Big hS n (x : Int) 4 (by omega) ⟨by omega, by omega⟩
    unfold bigR at h1
    rw [if_pos ⟨by omega, by simp at hx ⊢; omega⟩, Int.toNat_natCast] at h1
    have e1 : IntKind.i64.wrap (8 * 4) = 32 := wrap_id (by omega) (by omega)
    have e2 : IntKind.i64.wrap (1 * 2 ^ min 32 64) = 4294967296 := by rfl
    have e3 : IntKind.i64.wrap (4294967296 - 1) = 4294967295 := wrap_id (by omega) (by omega)
    have e4 : bitsOf .and .i64 (x : Int) 4294967295 = (x : Int) := by
      rw [show (4294967295 : Int) = ((2 ^ 32 - 1 : Nat) : Int) from rfl, bits_mask 32 (by omega) (show (x : Int) ≤ 9223372036854775807 by omega) (by decide)]; omega
    have h1 : S.ev (n + 1) id_num_Big [.int .i64 (x : Int), .int .i64 4] none = _ := h1
    (try simp only [guard_merge, or_merge, and_merge, or_pick, and_pick, guard_or, guard_and]); simp only [to_ob]
    simp only [go_sem, ↓reduceIte, reduceCtorEq, upd_ne, back_new (no_at), Nat.reduceAdd, Nat.reduceEqDiff, Nat.reduceMul, Nat.reduceSub, Nat.reduceLeDiff, Nat.reduceLT, Int.reduceToNat, Int.reduceLE, Int.reduceLT, Int.reduceEq, UInt8.reduceOfNat, List.getElem?_map, Int.toNat_natCast, Int.cast_ofNat_Int, Int.natCast_one, Int.ofNat_one, e1, e2, e3, e4, h1]
theorem ev_Pseudo6 (a b : List UInt8) (x l : Nat) (ha : a.length = 16) (hb : b.length = 16) (hx : x ≤ 255) (hl : l < 4294967296) :
    S.ev (n + 3) id_sum_Pseudo6 [.bytes a, .bytes b, .int .i64 (x : Int), .int .i64 (l : Int)] none = some (.str (ps6 a b x l), none) := by
  rw [Sys.step hS.h_sum_Pseudo6, F_sum_Pseudo6_eq]
  unfold F_sum_Pseudo6
  have h1 : S.ev (n + 2) id_sum_big [.int .i64 (l : Int), .int .i64 4] none = some (.str (beB 4 l), none) := ev_sbig hS n l 4 (by omega) (by simp; omega)
  have h2 : S.ev (n + 2) id_sum_big [.int .i64 (x : Int), .int .i64 1] none = some (.str (beB 1 x), none) := ev_sbig hS n x 1 (by omega) (by simp; omega)
  have hl := beB_len
  have t3 : a.take 16 = a := List.take_of_length_le (by omega)
  have t4 : b.take 16 = b := List.take_of_length_le (by omega)
  have x1 : 16 + 16 ≤ maxStr := by decide
  have x2 : 32 + 4 ≤ maxStr := by decide
  have x3 : 36 + 3 ≤ maxStr := by decide
  have x4 : 39 + 1 ≤ maxStr := by decide
  (try simp only [guard_merge, or_merge, and_merge, or_pick, and_pick, guard_or, guard_and]); simp only [to_ob]
  unfold ps6
  simp only [go_sem, ↓reduceIte, reduceCtorEq, upd_ne, back_new (no_at), Nat.reduceAdd, Nat.reduceEqDiff, Nat.reduceMul, Nat.reduceSub, Nat.reduceLeDiff, Nat.reduceLT, Int.reduceToNat, Int.reduceLE, Int.reduceLT, Int.reduceEq, UInt8.reduceOfNat, List.getElem?_map, Int.toNat_natCast, ha, hb, t3, t4, h1, h2, hl, x1, x2, x3, x4, toBytes_byteLV, List.length_append, List.append_assoc, List.cons_append, List.nil_append]
theorem ev_echoed (d o w : List UInt8) (k id : Nat) (hd : 6 ≤ d.length) (hd2 : d.length ≤ 900000) (ho : o.length % 2 = 0) (h1 : o.length ≤ 1000) (h2 : w.length ≤ 1000) (hk : k ≤ 255) (hi : id ≤ 65535) :
    S.ev (n + 4) id_fault_echoed [.str d, .str o, .str w, .int .i64 (k : Int), .int .i64 (id : Int)] none = some (.str (ecF d o w k id), none) := by
  rw [Sys.step hS.h_fault_echoed, F_fault_echoed_eq]
  unfold F_fault_echoed
  have g1 : S.ev (n + 3) id_fault_big [.int .i64 (k : Int), .int .i64 1] none = some (.str (beB 1 k), none) := ev_bigF hS (n + 1) k 1 (by omega) (lt1 (by omega) (by omega)) ⟨by omega, by omega⟩
  have g2 : S.ev (n + 3) id_fault_big [.int .i64 (id : Int), .int .i64 2] none = some (.str (beB 2 id), none) := ev_bigF hS (n + 1) id 2 (by omega) (lt2 (by omega) (by omega)) ⟨by omega, by omega⟩
  have hl := beB_len
  have l2 : 2 ≤ d.length := by omega
  have l4 : 4 ≤ d.length := by omega
  have t1 : (d.drop 6).take (d.length - 6) = d.drop 6 := List.take_of_length_le (by simp)
  have m1 : (d.take 2).length = 2 := by rw [List.length_take]; omega
  have m2 : ((d.drop 4).take 2).length = 2 := by rw [List.length_take, List.length_drop]; omega
  have m3 : ((d.drop 2).take 2).length = 2 := by rw [List.length_take, List.length_drop]; omega
  have x1 : 2 + 2 ≤ maxStr := by decide
  have x2 : 1 + 1 ≤ maxStr := by decide
  have x3 : 4 + 2 ≤ maxStr := by decide
  have x4 : 6 + (d.length - 6) ≤ maxStr := by unfold maxStr; omega
  have x5 : o.length + 4 ≤ maxStr := by unfold maxStr; omega
  have x6 : w.length + 2 ≤ maxStr := by unfold maxStr; omega
  have x7 : w.length + 2 + 2 ≤ maxStr := by unfold maxStr; omega
  have u1 := ev_upd hS n (ecD d k id) 2 (o ++ (d.take 2 ++ (d.drop 4).take 2)) (w ++ (beB 1 k ++ (0 :: beB 2 id))) false (by rw [ecD_len hd]; omega) (by omega) (by simp only [List.length_append, m1, m2]; omega) (by simp only [List.length_append, m1, m2]; omega) (by simp only [List.length_append, List.length_cons, beB_len]; omega)
  unfold ecF
  unfold ecD at u1 ⊢
  have u1 : S.ev (n + 3) id_fault_update [.str (beB 1 k ++ (0 :: ((d.drop 2).take 2 ++ (beB 2 id ++ d.drop 6)))), .int .i64 2, .str (o ++ (d.take 2 ++ (d.drop 4).take 2)), .str (w ++ (beB 1 k ++ (0 :: beB 2 id))), .bool false] none = _ := u1
  (try simp only [guard_merge, or_merge, and_merge, or_pick, and_pick, guard_or, guard_and]); simp only [to_ob]
  simp only [go_sem, ↓reduceIte, reduceCtorEq, upd_ne, back_new (no_at), Nat.reduceAdd, Nat.reduceEqDiff, Nat.reduceMul, Nat.reduceSub, Nat.reduceLeDiff, Nat.reduceLT, Int.reduceToNat, Int.reduceLE, Int.reduceLT, Int.reduceEq, UInt8.reduceOfNat, List.getElem?_map, Int.toNat_natCast, g1, g2, hl, hd, l2, l4, t1, m1, m2, m3, x1, x2, x3, x4, x5, x6, x7, u1, List.length_append, List.length_drop, List.length_cons, List.length_nil, List.append_assoc, List.cons_append, List.nil_append, Nat.sub_zero, List.drop_zero]
end
end Go.Ev

namespace Go.Ev
set_option linter.unusedSimpArgs false
set_option linter.unusedVariables false
set_option maxRecDepth 4000
set_option maxHeartbeats 2000000
def tagL (t : Nat) : List LV → LV
  | [] => .nils
  | x :: l => .lst (some (t, 1)) (x :: l)
def tagS (t sz : Nat) : List LV → Slots
  | [] => noSlots
  | x :: l => upd noSlots t (.tag 1 (l.length + 1) sz)
section
variable {t e by' : Nat} {l : List LV} {x : LV} {sl : Slots} {R : Type} {K : LV → Option R}
theorem wApp_tag (hl : (l.all fun v => decide (flatLen v = e)) = true) (hx : flatLen x = e) (hb : (l.length + 1) * by' ≤ 1099511627776) :
    wAppend e by' t (tagS t e l) (tagL t l) (.lst none [x]) = some (tagL t (l ++ [x]), tagS t e (l ++ [x])) := by
  have hn : (([x] : List LV).all fun v => decide (flatLen v = e)) = true := by simp [hx]
  cases l with
  | nil =>
    simp only [tagL, tagS, wAppend, newEls, hn, if_true, Option.bind_some]
    rw [if_neg (by simp), if_pos (by simpa using hb)]
    rfl
  | cons y l =>
    simp only [tagL, tagS, wAppend, newEls, hn, if_true, Option.bind_some, upd_same]
    rw [if_neg (by simp), if_pos ⟨trivial, rfl, trivial, hl, by simpa using hb⟩]
    simp only [upd_upd, List.cons_append, List.length_append, List.length_cons, List.length_nil]
theorem tg_len : ob (pr.len false (tagL t l)) K = K (.int .i64 (l.length : Int)) := by
  cases l with
  | nil => exact e_lenN
  | cons y l => exact e_lenL
theorem tg_ag : LV.isAgg (tagL t l) = false := by cases l <;> exact Eq.trans rfl rfl
theorem tg_st : stor (tagL t l) = true := by cases l <;> exact Eq.trans rfl rfl
theorem tg_pl : plainRes (tagL t l) = true := by cases l <;> exact Eq.trans rfl rfl
theorem tg_fl : flatLen (tagL t l) = 1 := by cases l <;> simp only [tagL, flatLen]
theorem tg_ps : psl (tagL t l) = some (.lst none l) := by cases l <;> simp only [tagL, psl]
theorem tg_sv : sealV sl (tagL t l) = some (.lst none l) := by cases l <;> simp only [tagL, sealV, psl]
theorem tg_ov : outV none sl (tagL t l) = some (.lst none l) := by cases l <;> simp only [tagL, outV, sealV, psl]
theorem tg_rf : refOk (tagS t e l) (tagL t l) = true := by
  cases l with
  | nil => simp only [tagL, refOk]
  | cons y l => simp only [tagL, tagS, refOk, upd_same]
theorem tg_bk : back noSlots (tagS t e l) = tagS t e l := by
  cases l with
  | nil => exact back_self
  | cons y l => exact c_bktag
theorem ext_flat (l : List (Int × List UInt8)) : ((l.map extLV).all fun v => decide (flatLen v = 2)) = true := by
  rw [List.all_eq_true]
  intro v hv
  obtain ⟨w, _, rfl⟩ := List.mem_map.1 hv
  simp [flatLen, sumLen]
end
attribute [go_sem ↓] tg_len tg_ag tg_st tg_pl tg_fl tg_ps tg_sv tg_ov tg_rf tg_bk
end Go.Ev

namespace Go.Ev
set_option linter.unusedSimpArgs false
set_option linter.unusedVariables false
set_option maxRecDepth 10000
set_option maxHeartbeats 8000000
def numN (l : List UInt8) : Nat := l.foldl (fun x c => x * 256 + c.toNat) 0
theorem numN_snoc (l : List UInt8) (c : UInt8) : numN (l ++ [c]) = numN l * 256 + c.toNat := by simp [numN]
theorem numN_lt' : ∀ (l : List UInt8) (x : Nat), l.foldl (fun x c => x * 256 + c.toNat) x < (x + 1) * 256 ^ l.length
  | [], x => by simp
  | c :: l, x => by
    have h := numN_lt' l (x * 256 + c.toNat)
    have hc := c.toNat_lt
    have h2 : (x * 256 + c.toNat + 1) * 256 ^ l.length ≤ ((x + 1) * 256) * 256 ^ l.length := Nat.mul_le_mul_right _ (by omega)
    rw [List.foldl_cons, List.length_cons, Nat.pow_succ, Nat.mul_comm (256 ^ l.length) 256, ← Nat.mul_assoc]
    omega
theorem numN_lt (l : List UInt8) : numN l < 256 ^ l.length := by
  have := numN_lt' l 0
  unfold numN
  omega
abbrev rdLV (s : List UInt8) (a : Nat) : LV := .agg [.str s, .int .i64 (a : Int), .int .i64 0, .int .i64 0]
theorem drop_take_one {s : List UInt8} {i : Nat} {c : UInt8} (h : s[i]? = some c) : (s.drop i).take 1 = [c] := by
  obtain ⟨hi, rfl⟩ := List.getElem?_eq_some_iff.1 h
  rw [List.drop_eq_getElem_cons hi]; rfl
theorem drop_take_snoc {s : List UInt8} {a i : Nat} {c : UInt8} (h : s[a + i]? = some c) : (s.drop a).take (i + 1) = (s.drop a).take i ++ [c] := by
  rw [List.take_add_one, List.getElem?_drop, h]; rfl
theorem numN_two {s : List UInt8} {i : Nat} (h : i + 2 ≤ s.length) : numN ((s.drop i).take 2) = wAt s i := by
  have ha := get_def (s := s) (i := i) (by omega)
  have hb := get_def (s := s) (i := i + 1) (by omega)
  rw [drop_take_snoc hb, show (s.drop i).take 1 = [s.getD i 0] from drop_take_one ha]
  simp only [numN, List.foldl_cons, List.foldl_nil, List.cons_append, List.nil_append, wAt, w16]
  omega
theorem sub_get {s : List UInt8} {a i m : Nat} (h : i < m) (hl : a + i < s.length) : ((s.drop a).take m)[i]? = some (s.getD (a + i) 0) := by
  rw [List.getElem?_take_of_lt h, List.getElem?_drop, get_def hl]
theorem num4_lt (s : List UInt8) : numN (s.take 4) < 4294967296 := by
  have h := numN_lt (s.take 4)
  have h2 : 256 ^ (s.take 4).length ≤ 256 ^ 4 := Nat.pow_le_pow_right (by decide) (by rw [List.length_take]; omega)
  have h3 : (256 : Nat) ^ 4 = 4294967296 := by decide
  omega
end Go.Ev

namespace Go.Ev
set_option linter.unusedSimpArgs false
set_option linter.unusedVariables false
set_option maxRecDepth 4000
set_option maxHeartbeats 2000000
abbrev nrLV (s : List UInt8) (a : Nat) : LV := .agg [.str s, .int .i64 (a : Int), .nilp]
theorem shl_or (x : Nat) (c : UInt8) (hx : x ≤ 4294967296) : bitsOf .or .i64 (((x * 256 : Nat)) : Int) (c.toNat : Int) = ((x * 256 + c.toNat : Nat) : Int) := by
  have hc := c.toNat_lt
  rw [bits_or_nat (by simp [IntKind.max, IntKind.signed, IntKind.bits]; omega) (by simp [IntKind.max, IntKind.signed, IntKind.bits]; omega)]
  congr 1
  rw [show x * 256 = x <<< 8 by rw [Nat.shiftLeft_eq], ← Nat.shiftLeft_add_eq_or_of_lt hc]
section
variable {S : Sys} (hS : Has S) (n : Nat)
include hS
theorem ev_nText (s : List UInt8) (a m : Nat) (h : a + m ≤ s.length) (hs : s.length ≤ 140737488351232) :
    S.ev (n + 1) id_num_Reader_Text [.ptr 0 0 [] 0, .int .i64 (m : Int)] (some (nrLV s a)) = some (.tup [.str ((s.drop a).take m), .nili], some (nrLV s (a + m))) := by
  rw [Sys.step hS.h_num_Reader_Text, F_num_Reader_Text_eq]
  unfold F_num_Reader_Text
  (try simp only [guard_merge, or_merge, and_merge, or_pick, and_pick, guard_or, guard_and]); simp only [to_ob]
  have f1 : ¬ (m : Int) < 0 := by omega
  have e1 : IntKind.i64.wrap ((s.length : Int) - (a : Int)) = ((s.length - a : Nat) : Int) := by rw [wrap_id (by omega) (by omega)]; omega
  have f2 : ¬ ((s.length - a : Nat) : Int) < (m : Int) := by omega
  have e2 : IntKind.i64.wrap ((a : Int) + (m : Int)) = ((a + m : Nat) : Int) := by rw [wrap_id (by omega) (by omega)]; omega
  have f3 : a ≤ a + m := by omega
  have f4 : a + m - a = m := by omega
  simp only [go_sem, ↓reduceIte, reduceCtorEq, upd_ne, back_new (no_at), Nat.reduceAdd, Nat.reduceEqDiff, Nat.reduceMul, Nat.reduceSub, Nat.reduceLeDiff, Nat.reduceLT, Int.reduceToNat, Int.reduceLE, Int.reduceLT, Int.reduceEq, UInt8.reduceOfNat, f1, e1, f2, e2, f3, f4, h]
theorem ev_nNumber (s : List UInt8) (a m : Nat) (h : a + m ≤ s.length) (hm : m ≤ 4) (hs : s.length ≤ 140737488351232) :
    S.ev (n + 2) id_num_Reader_number [.ptr 0 0 [] 0, .int .i64 (m : Int)] (some (nrLV s a)) = some (.tup [.int .i64 ((numN ((s.drop a).take m) : Nat) : Int), .nili], some (nrLV s (a + m))) := by
  rw [Sys.step hS.h_num_Reader_number, F_num_Reader_number_eq]
  unfold F_num_Reader_number
  have ht := ev_nText hS n s a m h hs
  (try simp only [guard_merge, or_merge, and_merge, or_pick, and_pick, guard_or, guard_and]); simp only [to_ob]
  simp only [go_sem, ↓reduceIte, reduceCtorEq, upd_ne, back_new (no_at), Nat.reduceAdd, Nat.reduceEqDiff, Nat.reduceMul, Nat.reduceSub, Nat.reduceLeDiff, Nat.reduceLT, Int.reduceToNat, Int.reduceLE, Int.reduceLT, Int.reduceEq, UInt8.reduceOfNat, ht]
  have hul : ((s.drop a).take m).length = m := by rw [List.length_take, List.length_drop]; omega
  generalize (s.drop a).take m = u at *
  refine while_rule (fun k q => ∃ i : Nat, i + k = m ∧ q = ([.int .i64 ((numN (u.take i) : Nat) : Int), .int .i64 (i : Int)], upd noSlots 0 (.obj 0 (nrLV s (a + m))))) m ⟨0, by omega, by simp [numN]⟩ ?_
  rintro k q ⟨i, hi, rfl⟩
  simp only [go_sem, ↓reduceIte, reduceCtorEq, upd_ne, back_new (no_at), Nat.reduceAdd, Nat.reduceEqDiff, Nat.reduceMul, Nat.reduceSub, Nat.reduceLeDiff, Nat.reduceLT, Int.reduceToNat, Int.reduceLE, Int.reduceLT, Int.reduceEq, UInt8.reduceOfNat, hul]
  refine nxt_ite (fun h => ?_) (fun h => ?_)
  · have hlt : i < u.length := by omega
    obtain ⟨c, hc⟩ : ∃ c, u[i]? = some c := ⟨u[i], by simp [hlt]⟩
    have htk : u.take (i + 1) = u.take i ++ [c] := by rw [List.take_add_one, hc]; rfl
    have hb := numN_lt (u.take i)
    have hb2 : 256 ^ (u.take i).length ≤ 256 ^ 3 := Nat.pow_le_pow_right (by decide) (by rw [List.length_take]; omega)
    have hb3 : (256 : Nat) ^ 3 = 16777216 := by decide
    have hcl := c.toNat_lt
    have e1 : IntKind.i64.wrap (((numN (u.take i) : Nat) : Int) * 2 ^ min 8 64) = ((numN (u.take i) * 256 : Nat) : Int) := by rw [show min 8 64 = 8 from rfl, wrap_id (by omega) (by omega)]; omega
    have e2 : IntKind.i64.wrap (c.toNat : Int) = (c.toNat : Int) := wrap_id (by omega) (by omega)
    have e3 := shl_or (numN (u.take i)) c (by omega)
    have e4 : IntKind.i64.wrap ((i : Int) + 1) = ((i + 1 : Nat) : Int) := by rw [wrap_id (by omega) (by omega)]; omega
    simp only [go_sem, ↓reduceIte, reduceCtorEq, upd_ne, back_new (no_at), Nat.reduceAdd, Nat.reduceEqDiff, Nat.reduceMul, Nat.reduceSub, Nat.reduceLeDiff, Nat.reduceLT, Int.reduceToNat, Int.reduceLE, Int.reduceLT, Int.reduceEq, UInt8.reduceOfNat, List.getElem?_map, Int.toNat_natCast, hc, e1, e2, e3, e4]
    exact ⟨k - 1, by omega, i + 1, by omega, by rw [htk, numN_snoc]⟩
  · obtain rfl : i = m := by omega
    rw [List.take_of_length_le (by omega)]
    simp only [go_sem, ↓reduceIte, reduceCtorEq, upd_ne, back_new (no_at), Nat.reduceAdd, Nat.reduceEqDiff, Nat.reduceMul, Nat.reduceSub, Nat.reduceLeDiff, Nat.reduceLT, Int.reduceToNat, Int.reduceLE, Int.reduceLT, Int.reduceEq, UInt8.reduceOfNat, Nxt, exIf]
theorem ev_U32 (s : List UInt8) (a : Nat) (h : a + 4 ≤ s.length) (hs : s.length ≤ 140737488351232) :
    S.ev (n + 3) id_num_Reader_U32 [.ptr 0 0 [] 0] (some (nrLV s a)) = some (.tup [.int .i64 ((numN ((s.drop a).take 4) : Nat) : Int), .nili], some (nrLV s (a + 4))) := by
  rw [Sys.step hS.h_num_Reader_U32, F_num_Reader_U32_eq]
  unfold F_num_Reader_U32
  have ht : S.ev (n + 2) id_num_Reader_number [.ptr 0 0 [] 0, .int .i64 4] (some (nrLV s a)) = some (.tup [.int .i64 ((numN ((s.drop a).take 4) : Nat) : Int), .nili], some (nrLV s (a + 4))) := ev_nNumber hS n s a 4 h (by omega) hs
  (try simp only [guard_merge, or_merge, and_merge, or_pick, and_pick, guard_or, guard_and]); simp only [to_ob]
  simp only [go_sem, ↓reduceIte, reduceCtorEq, upd_ne, back_new (no_at), Nat.reduceAdd, Nat.reduceEqDiff, Nat.reduceMul, Nat.reduceSub, Nat.reduceLeDiff, Nat.reduceLT, Int.reduceToNat, Int.reduceLE, Int.reduceLT, Int.reduceEq, UInt8.reduceOfNat, ht]
theorem ev_New (s : List UInt8) : S.ev (n + 1) id_num_New [.str s] none = some (.fresh (nrLV s 0), none) := by
  rw [Sys.step hS.h_num_New, F_num_New_eq]
  unfold F_num_New
  (try simp only [guard_merge, or_merge, and_merge, or_pick, and_pick, guard_or, guard_and]); simp only [to_ob]
  simp only [go_sem, ↓reduceIte, reduceCtorEq, upd_ne, back_new (no_at), Nat.reduceAdd, Nat.reduceEqDiff, Nat.reduceMul, Nat.reduceSub, Nat.reduceLeDiff, Nat.reduceLT, Int.reduceToNat, Int.reduceLE, Int.reduceLT, Int.reduceEq, UInt8.reduceOfNat, Int.natCast_zero]
  try rfl
end
end Go.Ev

namespace Go.Ev
set_option linter.unusedSimpArgs false
set_option linter.unusedVariables false
set_option maxRecDepth 4000
set_option maxHeartbeats 4000000
abbrev ChR := Int × List (Int × List UInt8) × Int × List UInt8
abbrev isE (k : Int) : Prop := (k = 0 ∨ k = 43) ∨ k = 60
def sz6 (s : List UInt8) : Nat := 8 * (1 + bAt s 1)
def chC : Nat → Bool → Int → List UInt8 → ChR
  | 0, first, next, s => if isE next then (if next = 0 ∧ first = false then (8, [], 0, []) else (3, [], 0, [])) else (0, [], next, s)
  | k + 1, first, next, s =>
    if isE next then
      if next = 0 ∧ first = false then (8, [], 0, [])
      else if s.length < sz6 s then (7, [], 0, [])
      else
        let r := chC k false ((bAt s 0 : Nat) : Int) (s.drop (sz6 s))
        if r.1 = 0 then (0, (next, (s.drop 2).take (sz6 s - 2)) :: r.2.1, r.2.2) else r
    else (0, [], next, s)
def chP (acc : List (Int × List UInt8)) (r : ChR) : ChR := if r.1 = 0 then (0, acc ++ r.2.1, r.2.2) else r
theorem chC_err : ∀ (k : Nat) (f : Bool) (next : Int) (s : List UInt8), (chC k f next s).1 ≠ 0 → chC k f next s = ((chC k f next s).1, [], 0, [])
  | 0, f, next, s => by
    unfold chC
    split
    · split <;> simp
    · simp
  | k + 1, f, next, s => by
    unfold chC
    split
    · split
      · simp
      · split
        · simp
        · simp only
          split
          · simp
          · rename_i h
            intro _
            exact chC_err k false _ _ h
    · simp
theorem chP_nil (k : Nat) (f : Bool) (next : Int) (s : List UInt8) : chP [] (chC k f next s) = chC k f next s := by
  unfold chP
  split
  · rename_i h
    rw [List.nil_append, ← h]
  · rfl
theorem chP_step {acc : List (Int × List UInt8)} {k : Nat} {f : Bool} {next : Int} {s : List UInt8} (h1 : isE next) (h2 : ¬ (next = 0 ∧ f = false)) (h3 : ¬ s.length < sz6 s) :
    chP acc (chC (k + 1) f next s) = chP (acc ++ [(next, (s.drop 2).take (sz6 s - 2))]) (chC k false ((bAt s 0 : Nat) : Int) (s.drop (sz6 s))) := by
  rw [chC, if_pos h1, if_neg h2, if_neg h3]
  generalize chC k false ((bAt s 0 : Nat) : Int) (s.drop (sz6 s)) = r
  unfold chP
  by_cases h : r.1 = 0
  · simp only [h, if_true, List.append_assoc, List.cons_append, List.nil_append]
  · simp only [h, if_false]
def chLV (r : ChR) : LV := .tup [extsLV r.2.1, .int .i64 r.2.2.1, .str r.2.2.2, fE r.1]
def chLV' (r : ChR) : LV := .tup [extsLV r.2.1, .int .i64 r.2.2.1, .str r.2.2.2, .int .i64 r.1]
section
variable {S : Sys} (hS : Has S) (n : Nat)
include hS
theorem ev_fault6 (c : Int) : S.ev (n + 1) id_ip6_fault [.int .i64 c] none = some (faultLV c, none) := by
  rw [Sys.step hS.h_ip6_fault, F_ip6_fault_eq]
  unfold F_ip6_fault
  simp only [to_ob]
  simp only [go_sem, ↓reduceIte, reduceCtorEq, upd_ne, back_new (no_at), Nat.reduceAdd, Nat.reduceEqDiff, Nat.reduceMul, Nat.reduceSub, Nat.reduceLeDiff, Nat.reduceLT, Int.reduceToNat, Int.reduceLE, Int.reduceLT, Int.reduceEq, UInt8.reduceOfNat]
theorem ev_extends (k : Int) : S.ev (n + 1) id_ip6_extends [.int .i64 k] none = some (.bool (decide (isE k)), none) := by
  rw [Sys.step hS.h_ip6_extends, F_ip6_extends_eq]
  unfold F_ip6_extends
  (try simp only [guard_merge, or_merge, and_merge, or_pick, and_pick, guard_or, guard_and]); simp only [to_ob]
  by_cases h1 : k = 0 <;> by_cases h2 : k = 43 <;> by_cases h3 : k = 60 <;> simp only [go_sem, ↓reduceIte, reduceCtorEq, upd_ne, back_new (no_at), Nat.reduceAdd, Nat.reduceEqDiff, Nat.reduceMul, Nat.reduceSub, Nat.reduceLeDiff, Nat.reduceLT, Int.reduceToNat, Int.reduceLE, Int.reduceLT, Int.reduceEq, UInt8.reduceOfNat, h1, h2, h3] <;> first | rfl | simp [h1, h2, h3]
theorem ev_chain6 (next : Int) (s : List UInt8) (hs : s.length ≤ 140737488351232) : S.ev (n + 2) id_ip6_Chain [.int .i64 next, .str s] none = some (chLV (chC 8 true next s), none) := by
  rw [Sys.step hS.h_ip6_Chain, F_ip6_Chain_eq]
  unfold F_ip6_Chain
  have hx := ev_extends hS n
  have hfa := ev_fault6 hS n
  (try simp only [guard_merge, or_merge, and_merge, or_pick, and_pick, guard_or, guard_and]); simp only [to_ob]
  refine while_rule (fun k q => ∃ (acc : List (Int × List UInt8)) (next' : Int) (t : List UInt8), q = ([tagL 49 (acc.map extLV), .int .i64 0, .str [], .nili, .int .i64 next', .str t], tagS 49 2 (acc.map extLV)) ∧ acc.length + k = 8 ∧ t.length ≤ s.length ∧ chP acc (chC k acc.isEmpty next' t) = chC 8 true next s) 8 ⟨[], next, s, rfl, rfl, Nat.le_refl _, chP_nil _ _ _ _⟩ ?_
  rintro k q ⟨acc, next', t, rfl, hk, ht, hr⟩
  by_cases c1 : isE next'
  · have c1' : decide (isE next') = true := decide_eq_true c1
    by_cases c2 : next' = 0 ∧ acc.isEmpty = false
    · have c2' := c2
      obtain ⟨rfl, c2x⟩ := c2'
      have c2a : 0 < (acc.length : Int) := by
        cases acc with
        | nil => simp at c2x
        | cons x l => simp only [List.length_cons]; omega
      have hr : chC 8 true next s = (8, [], 0, []) := by
        rw [← hr]
        cases k with
        | zero => rw [chC, if_pos c1, if_pos c2]; rfl
        | succ k => rw [chC, if_pos c1, if_pos c2]; rfl
      rw [hr]
      by_cases c3 : 2 ≤ t.length
      · have c3' : 2 ≤ (t.length : Int) := by omega
        have g1 := get_def (s := t) (i := 1) (by omega)
        simp only [go_sem, ↓reduceIte, reduceCtorEq, upd_ne, back_new (no_at), Nat.reduceAdd, Nat.reduceEqDiff, Nat.reduceMul, Nat.reduceSub, Nat.reduceLeDiff, Nat.reduceLT, Int.reduceToNat, Int.reduceLE, Int.reduceLT, Int.reduceEq, UInt8.reduceOfNat, List.getElem?_map, Int.toNat_natCast, hx, hfa, c1', c2a, c3', g1, List.length_map, Nxt, exIf, chLV, fE]
        try rfl
      · have c3' : ¬ 2 ≤ (t.length : Int) := by omega
        simp only [go_sem, ↓reduceIte, reduceCtorEq, upd_ne, back_new (no_at), Nat.reduceAdd, Nat.reduceEqDiff, Nat.reduceMul, Nat.reduceSub, Nat.reduceLeDiff, Nat.reduceLT, Int.reduceToNat, Int.reduceLE, Int.reduceLT, Int.reduceEq, UInt8.reduceOfNat, List.getElem?_map, Int.toNat_natCast, hx, hfa, c1', c2a, c3', List.length_map, Nxt, exIf, chLV, fE]
        try rfl
    · have c2b : ¬ (next' = 0 ∧ 0 < (acc.length : Int)) := by
        rintro ⟨h1, h2⟩
        apply c2
        refine ⟨h1, ?_⟩
        cases acc with
        | nil => simp at h2
        | cons x l => rfl
      have hd : (andK (.bool (decide (next' = 0))) (some (.bool (decide (0 < (acc.length : Int)))))) = some (.bool false) := by
        by_cases h : next' = 0
        · have : ¬ 0 < (acc.length : Int) := fun q => c2b ⟨h, q⟩
          rw [decide_eq_true h, decide_eq_false this]; rfl
        · rw [decide_eq_false h]; rfl
      cases k with
      | zero =>
        have c4 : 8 ≤ (acc.length : Int) := by omega
        have hr : chC 8 true next s = (3, [], 0, []) := by
          rw [← hr, chC, if_pos c1, if_neg c2]; rfl
        rw [hr]
        by_cases c3 : 2 ≤ t.length
        · have c3' : 2 ≤ (t.length : Int) := by omega
          have g1 := get_def (s := t) (i := 1) (by omega)
          simp only [go_sem, ↓reduceIte, reduceCtorEq, upd_ne, back_new (no_at), Nat.reduceAdd, Nat.reduceEqDiff, Nat.reduceMul, Nat.reduceSub, Nat.reduceLeDiff, Nat.reduceLT, Int.reduceToNat, Int.reduceLE, Int.reduceLT, Int.reduceEq, UInt8.reduceOfNat, List.getElem?_map, Int.toNat_natCast, hx, hfa, c1', hd, c4, c3', g1, List.length_map, Nxt, exIf, chLV, fE]
          try rfl
        · have c3' : ¬ 2 ≤ (t.length : Int) := by omega
          simp only [go_sem, ↓reduceIte, reduceCtorEq, upd_ne, back_new (no_at), Nat.reduceAdd, Nat.reduceEqDiff, Nat.reduceMul, Nat.reduceSub, Nat.reduceLeDiff, Nat.reduceLT, Int.reduceToNat, Int.reduceLE, Int.reduceLT, Int.reduceEq, UInt8.reduceOfNat, List.getElem?_map, Int.toNat_natCast, hx, hfa, c1', hd, c4, c3', List.length_map, Nxt, exIf, chLV, fE]
          try rfl
      | succ k =>
        have c4 : ¬ 8 ≤ (acc.length : Int) := by omega
        by_cases c3 : 2 ≤ t.length
        · have c3' : 2 ≤ (t.length : Int) := by omega
          have g0 := get_def (s := t) (i := 0) (by omega)
          have g1 := get_def (s := t) (i := 1) (by omega)
          have hb1 := bAt_le t 1
          have hb0 := bAt_le t 0
          have e1 : IntKind.i64.wrap ((t.getD 1 0).toNat : Int) = ((bAt t 1 : Nat) : Int) := wrap_id (by omega) (by unfold bAt at hb1; omega)
          have e0 : IntKind.i64.wrap ((t.getD 0 0).toNat : Int) = ((bAt t 0 : Nat) : Int) := wrap_id (by omega) (by unfold bAt at hb0; omega)
          have e2 : IntKind.i64.wrap (8 + IntKind.i64.wrap (((bAt t 1 : Nat) : Int) * 8)) = ((sz6 t : Nat) : Int) := by
            rw [wrap_id (n := ((bAt t 1 : Nat) : Int) * 8) (by omega) (by omega), wrap_id (by omega) (by omega)]; unfold sz6; omega
          by_cases c5 : t.length < sz6 t
          · have c5' : (t.length : Int) < ((sz6 t : Nat) : Int) := by omega
            have hr : chC 8 true next s = (7, [], 0, []) := by
              rw [← hr, chC, if_pos c1, if_neg c2, if_pos c5]; rfl
            rw [hr]
            simp only [go_sem, ↓reduceIte, reduceCtorEq, upd_ne, back_new (no_at), Nat.reduceAdd, Nat.reduceEqDiff, Nat.reduceMul, Nat.reduceSub, Nat.reduceLeDiff, Nat.reduceLT, Int.reduceToNat, Int.reduceLE, Int.reduceLT, Int.reduceEq, UInt8.reduceOfNat, List.getElem?_map, Int.toNat_natCast, hx, hfa, c1', hd, c4, c3', g1, byteLV, e1, e2, c5', List.length_map, Nxt, exIf, chLV, fE]
            try rfl
          · have c5' : ¬ (t.length : Int) < ((sz6 t : Nat) : Int) := by omega
            have l1 : sz6 t ≤ t.length := by omega
            have l2 : 2 ≤ sz6 t := by unfold sz6; omega
            have ha := wApp_tag (t := 49) (by' := 24) (ext_flat acc) (show flatLen (extLV (next', (t.drop 2).take (sz6 t - 2))) = 2 by simp [flatLen, sumLen]) (by simp; omega)
            have hm : acc.map extLV ++ [extLV (next', (t.drop 2).take (sz6 t - 2))] = (acc ++ [(next', (t.drop 2).take (sz6 t - 2))]).map extLV := by simp
            rw [hm] at ha
            simp only [go_sem, ↓reduceIte, reduceCtorEq, upd_ne, back_new (no_at), Nat.reduceAdd, Nat.reduceEqDiff, Nat.reduceMul, Nat.reduceSub, Nat.reduceLeDiff, Nat.reduceLT, Int.reduceToNat, Int.reduceLE, Int.reduceLT, Int.reduceEq, UInt8.reduceOfNat, List.getElem?_map, Int.toNat_natCast, hx, hfa, c1', hd, c4, c3', g0, g1, byteLV, e0, e1, e2, c5', l1, l2, ha, List.length_map, Nat.le_refl]
            refine ⟨k, by omega, acc ++ [(next', (t.drop 2).take (sz6 t - 2))], ((bAt t 0 : Nat) : Int), t.drop (sz6 t), ?_, by simp; omega, by simp; omega, ?_⟩
            · rfl
            · rw [← hr, chP_step c1 c2 c5]
              congr 2
              cases acc <;> rfl
        · have c3' : ¬ 2 ≤ (t.length : Int) := by omega
          have c5 : t.length < sz6 t := by unfold sz6; omega
          have c5' : (t.length : Int) < 8 := by omega
          have hr : chC 8 true next s = (7, [], 0, []) := by
            rw [← hr, chC, if_pos c1, if_neg c2, if_pos c5]; rfl
          rw [hr]
          simp only [go_sem, ↓reduceIte, reduceCtorEq, upd_ne, back_new (no_at), Nat.reduceAdd, Nat.reduceEqDiff, Nat.reduceMul, Nat.reduceSub, Nat.reduceLeDiff, Nat.reduceLT, Int.reduceToNat, Int.reduceLE, Int.reduceLT, Int.reduceEq, UInt8.reduceOfNat, List.getElem?_map, Int.toNat_natCast, hx, hfa, c1', hd, c4, c3', c5', List.length_map, Nxt, exIf, chLV, fE]
          try rfl
  · have c1' : decide (isE next') = false := decide_eq_false c1
    have hr : chC 8 true next s = (0, acc, next', t) := by
      rw [← hr]
      cases k with
      | zero => rw [chC, if_neg c1]; simp [chP]
      | succ k => rw [chC, if_neg c1]; simp [chP]
    rw [hr]
    simp only [go_sem, ↓reduceIte, reduceCtorEq, upd_ne, back_new (no_at), Nat.reduceAdd, Nat.reduceEqDiff, Nat.reduceMul, Nat.reduceSub, Nat.reduceLeDiff, Nat.reduceLT, Int.reduceToNat, Int.reduceLE, Int.reduceLT, Int.reduceEq, UInt8.reduceOfNat, List.getElem?_map, Int.toNat_natCast, hx, c1', Nxt, exIf, chLV, fE]
    try rfl
end
end Go.Ev

namespace Go.Ev
set_option linter.unusedSimpArgs false
set_option linter.unusedVariables false
set_option maxRecDepth 4000
set_option maxHeartbeats 8000000
abbrev y16 : List UInt8 := [0, 0, 0, 0, 0, 0, 0, 0, 0, 0, 0, 0, 0, 0, 0, 0]
abbrev z6LV : LV := ip6LV 0 0 0 y16 y16 (.lst none []) false 0 0 false 0 []
def k6 (s : List UInt8) : ChR := chC 8 true ((bAt s 6 : Nat) : Int) ((s.drop 40).take (wAt s 4))
def okF6 (mo : Bool) (at' : Nat) (da : List UInt8) : Prop := (mo = true → da.length ≠ 0 ∧ da.length % 8 = 0) ∧ at' + da.length ≤ 65535
instance (mo : Bool) (at' : Nat) (da : List UInt8) : Decidable (okF6 mo at' da) := by unfold okF6; infer_instance
def fa6 (r : List UInt8) : Nat := wAt r 2 / 8 * 8
def fm6 (r : List UInt8) : Bool := decide (wAt r 2 % 2 = 1)
def fi6 (r : List UInt8) : Nat := numN ((r.drop 4).take 4)
def kF6 (r : List UInt8) : Int := if r.length < 8 then 7 else if okF6 (fm6 r) (fa6 r) (r.drop 8) then 0 else 8
def kR6 (k : ChR) : Int := if k.1 ≠ 0 then k.1 else if k.2.2.1 ≠ 44 then 0 else kF6 k.2.2.2
def pK6 (s : List UInt8) : Int :=
  if s.length < 40 then 7 else if bAt s 0 / 16 ≠ 6 then 8 else if s.length < 40 + wAt s 4 then 7 else kR6 (k6 s)
def pcl6 (s : List UInt8) : Int := ((numN (s.take 4) / 1048576 % 256 : Nat) : Int)
def pfl6 (s : List UInt8) : Int := ((numN (s.take 4) % 1048576 : Nat) : Int)
def pfr6 (s : List UInt8) : List UInt8 := (s.drop 8).take 16
def pto6 (s : List UInt8) : List UInt8 := (s.drop 24).take 16
def mk6 (s : List UInt8) (k : ChR) : LV :=
  if k.2.2.1 = 44 then ip6LV (pcl6 s) (pfl6 s) (bAt s 7 : Nat) (pfr6 s) (pto6 s) (extsLV k.2.1) true (fi6 k.2.2.2 : Nat) (fa6 k.2.2.2 : Nat) (fm6 k.2.2.2) (bAt k.2.2.2 0 : Nat) (k.2.2.2.drop 8)
  else ip6LV (pcl6 s) (pfl6 s) (bAt s 7 : Nat) (pfr6 s) (pto6 s) (extsLV k.2.1) false 0 0 false k.2.2.1 k.2.2.2
def pLV6 (s : List UInt8) : LV := if pK6 s = 0 then mk6 s (k6 s) else z6LV
theorem wc3 {sl : Slots} {t g : Nat} {cl fl ho : Int} {fr to : List UInt8} {ex : LV} {fg : Bool} {id at' : Int} {mo : Bool} {pt : Int} {da s : List UInt8} (hf : fr.length = 16) (hs : 16 ≤ s.length) :
    wCopy (upd sl t (.obj g (ip6LV cl fl ho fr to ex fg id at' mo pt da))) (.arr t g [3] 3 0 16) (.str s) = some (.int .i64 16, upd (upd sl t (.obj g (ip6LV cl fl ho fr to ex fg id at' mo pt da))) t (.obj g (ip6LV cl fl ho (s.take 16) to ex fg id at' mo pt da))) := by
  have h1 : min s.length 16 = 16 := by omega
  have h2 : fr.drop 16 = [] := List.drop_eq_nil_of_le (by omega)
  have hg : getPath (ip6LV cl fl ho fr to ex fg id at' mo pt da) [3] = some (.bytes fr, 3) := by simp only [go_sem, ↓reduceIte, reduceCtorEq, upd_ne, back_new (no_at), Nat.reduceAdd, Nat.reduceEqDiff, Nat.reduceMul, Nat.reduceSub, Nat.reduceLeDiff, Nat.reduceLT, Int.reduceToNat, Int.reduceLE, Int.reduceLT, Int.reduceEq, UInt8.reduceOfNat]
  have hp : setPath (ip6LV cl fl ho fr to ex fg id at' mo pt da) [3] (.bytes (s.take 16)) = some (ip6LV cl fl ho (s.take 16) to ex fg id at' mo pt da) := by simp only [go_sem, ↓reduceIte, reduceCtorEq, upd_ne, back_new (no_at), Nat.reduceAdd, Nat.reduceEqDiff, Nat.reduceMul, Nat.reduceSub, Nat.reduceLeDiff, Nat.reduceLT, Int.reduceToNat, Int.reduceLE, Int.reduceLT, Int.reduceEq, UInt8.reduceOfNat]
  unfold wCopy
  simp only [upd_same, if_true, hg]
  rw [if_pos ⟨trivial, by omega⟩]
  simp only [h1, Option.bind_some, List.take_zero, List.nil_append, Nat.zero_add, h2, List.append_nil, hp, Option.map_some]
  rfl
theorem wc4 {sl : Slots} {t g : Nat} {cl fl ho : Int} {fr to : List UInt8} {ex : LV} {fg : Bool} {id at' : Int} {mo : Bool} {pt : Int} {da s : List UInt8} (hf : fr.length = 16) (ht : to.length = 16) (hs : 16 ≤ s.length) :
    wCopy (upd sl t (.obj g (ip6LV cl fl ho fr to ex fg id at' mo pt da))) (.arr t g [4] 19 0 16) (.str s) = some (.int .i64 16, upd (upd sl t (.obj g (ip6LV cl fl ho fr to ex fg id at' mo pt da))) t (.obj g (ip6LV cl fl ho fr (s.take 16) ex fg id at' mo pt da))) := by
  have h1 : min s.length 16 = 16 := by omega
  have h2 : to.drop 16 = [] := List.drop_eq_nil_of_le (by omega)
  have hg : getPath (ip6LV cl fl ho fr to ex fg id at' mo pt da) [4] = some (.bytes to, 19) := by simp only [go_sem, ↓reduceIte, reduceCtorEq, upd_ne, back_new (no_at), Nat.reduceAdd, Nat.reduceEqDiff, Nat.reduceMul, Nat.reduceSub, Nat.reduceLeDiff, Nat.reduceLT, Int.reduceToNat, Int.reduceLE, Int.reduceLT, Int.reduceEq, UInt8.reduceOfNat, hf]
  have hp : setPath (ip6LV cl fl ho fr to ex fg id at' mo pt da) [4] (.bytes (s.take 16)) = some (ip6LV cl fl ho fr (s.take 16) ex fg id at' mo pt da) := by simp only [go_sem, ↓reduceIte, reduceCtorEq, upd_ne, back_new (no_at), Nat.reduceAdd, Nat.reduceEqDiff, Nat.reduceMul, Nat.reduceSub, Nat.reduceLeDiff, Nat.reduceLT, Int.reduceToNat, Int.reduceLE, Int.reduceLT, Int.reduceEq, UInt8.reduceOfNat]
  unfold wCopy
  simp only [upd_same, if_true, hg]
  rw [if_pos ⟨trivial, by omega⟩]
  simp only [h1, Option.bind_some, List.take_zero, List.nil_append, Nat.zero_add, h2, List.append_nil, hp, Option.map_some]
  rfl
theorem andNot7 (x : Nat) (h : x ≤ 65535) : bitsOf .andNot .i64 (x : Int) 7 = ((x / 8 * 8 : Nat) : Int) := by
  rw [show (7 : Int) = ((7 : Nat) : Int) from rfl]
  unfold bitsOf
  rw [ofInt_nat, ofInt_nat]
  simp only [BitVec.toNat_and, BitVec.toNat_not, BitVec.toNat_ofNat]
  have e : x % 2 ^ IntKind.i64.bits &&& (2 ^ IntKind.i64.bits - 1 - 7 % 2 ^ IntKind.i64.bits) = x / 8 * 8 := by
    rw [show IntKind.i64.bits = 64 from rfl, Nat.mod_eq_of_lt (by omega), show 2 ^ 64 - 1 - 7 % 2 ^ 64 = (2 ^ 61 - 1) * 2 ^ 3 by decide]
    apply Nat.eq_of_testBit_eq
    intro i
    rw [Nat.testBit_and, Nat.testBit_mul_two_pow, Nat.testBit_two_pow_sub_one, show x / 8 * 8 = (x / 2 ^ 3) * 2 ^ 3 from rfl, Nat.testBit_mul_two_pow, Nat.testBit_div_two_pow]
    by_cases h3 : 3 ≤ i
    · by_cases h4 : i - 3 < 61
      · simp [h3, h4, show i - 3 + 3 = i by omega]
      · have h5 : x.testBit i = false := Nat.testBit_lt_two_pow (by have : 2 ^ 64 ≤ 2 ^ i := Nat.pow_le_pow_right (by decide) (by omega)
                                                                    omega)
        simp [h3, h4, h5, show i - 3 + 3 = i by omega]
    · simp [h3]
  rw [e]
  exact wrap_id (by omega) (by omega)
theorem wrap_u32 {x : Nat} (h : x < 4294967296) : IntKind.u32.wrap (x : Int) = (x : Int) := by
  simp only [IntKind.wrap, IntKind.bits, IntKind.signed]
  simp
  omega
end Go.Ev

namespace Go.Ev
set_option linter.unusedSimpArgs false
set_option linter.unusedVariables false
set_option maxRecDepth 4000
set_option maxHeartbeats 8000000
def kB (ex : List (Int × List UInt8)) : Bool := ex.all fun e => decide (isE e.1)
abbrev fE1 (f : Bool) (e : Int × List UInt8) : Prop := e.2.length % 8 = 6 ∧ e.2.length ≤ 2046 ∧ (e.1 = 0 → f = true)
def fB : Bool → List (Int × List UInt8) → Bool
  | _, [] => true
  | f, e :: l => decide (fE1 f e) && fB false l
def szE : List (Int × List UInt8) → Nat
  | [] => 0
  | e :: l => e.2.length + 2 + szE l
abbrev rg6 (cl fl ho at' pt : Int) : Prop := (0 ≤ cl ∧ cl ≤ 255) ∧ (0 ≤ fl ∧ fl ≤ 1048575) ∧ (0 ≤ ho ∧ ho ≤ 255) ∧ (0 ≤ pt ∧ pt ≤ 255) ∧ (0 ≤ at' ∧ at' ≤ 65528) ∧ Int.tmod at' 8 = 0
abbrev kd6 (ex : List (Int × List UInt8)) (fg : Bool) (pt : Int) : Prop := kB ex = true ∧ (fg = false → ¬ isE pt ∧ pt ≠ 44)
abbrev pc6 (mo : Bool) (da : List UInt8) : Prop := mo = true → da.length ≠ 0 ∧ da.length % 8 = 0
abbrev fm6' (ex : List (Int × List UInt8)) (fg : Bool) (id at' : Int) (mo : Bool) (da : List UInt8) : Prop :=
  fB true ex = true ∧ (if fg = true then pc6 mo da else id = 0 ∧ at' = 0 ∧ mo = false)
def bh6 (ex : List (Int × List UInt8)) (fg : Bool) (da : List UInt8) : Nat := szE ex + (if fg = true then 8 else 0) + da.length
def why6 (cl fl ho : Int) (ex : List (Int × List UInt8)) (fg : Bool) (id at' : Int) (mo : Bool) (pt : Int) (da : List UInt8) : Int :=
  if rg6 cl fl ho at' pt then
    (if kd6 ex fg pt then (if fm6' ex fg id at' mo da then (if ex.length ≤ 8 ∧ at' + da.length ≤ 65535 ∧ bh6 ex fg da ≤ 65535 then 0 else 3) else 8) else 10) else 13
structure SmE (ex : List (Int × List UInt8)) : Prop where
  n : ex.length ≤ 20
  b : ∀ e ∈ ex, e.2.length ≤ 140737488351232
theorem szE_app : ∀ (a b : List (Int × List UInt8)), szE (a ++ b) = szE a + szE b
  | [], b => by simp [szE]
  | e :: a, b => by simp only [List.cons_append, szE, szE_app a b]; omega
theorem szE_le : ∀ (ex : List (Int × List UInt8)), (∀ e ∈ ex, e.2.length ≤ 140737488351232) → szE ex ≤ 140737488351234 * ex.length
  | [], _ => by simp [szE]
  | e :: l, h => by
    have h1 := h e (by simp)
    have h2 := szE_le l fun x hx => h x (by simp [hx])
    simp only [szE, List.length_cons]
    omega
theorem drop_ex {ex : List (Int × List UInt8)} {i : Nat} {e : Int × List UInt8} (h : ex[i]? = some e) : ex.drop i = e :: ex.drop (i + 1) := by
  obtain ⟨hi, rfl⟩ := List.getElem?_eq_some_iff.1 h
  exact List.drop_eq_getElem_cons hi
end Go.Ev

namespace Go.Ev
set_option linter.unusedSimpArgs false
set_option linter.unusedVariables false
set_option maxRecDepth 4000
set_option maxHeartbeats 8000000
def nxE : List (Int × List UInt8) → Int → Int
  | [], p => p
  | e :: _, _ => e.1
def exB : List (Int × List UInt8) → Int → List UInt8 → List UInt8
  | [], _, b => b
  | e :: l, p, b => beB 1 (nxE l p).toNat ++ (beB 1 (e.2.length / 8) ++ (e.2 ++ exB l p b))
def pcB (id at' : Int) (mo : Bool) (pt : Int) (da : List UInt8) : List UInt8 := beB 1 pt.toNat ++ (0 :: (beB 2 (at'.toNat + if mo = true then 1 else 0) ++ (beB 4 id.toNat ++ da)))
def bd6 (ex : List (Int × List UInt8)) (fg : Bool) (id at' : Int) (mo : Bool) (pt : Int) (da : List UInt8) : List UInt8 := if fg = true then exB ex 44 (pcB id at' mo pt da) else exB ex pt da
def by6 (cl fl ho : Int) (fr to : List UInt8) (ex : List (Int × List UInt8)) (fg : Bool) (id at' : Int) (mo : Bool) (pt : Int) (da : List UInt8) : List UInt8 :=
  beB 4 (1610612736 + cl.toNat * 1048576 + fl.toNat) ++ (beB 2 (bd6 ex fg id at' mo pt da).length ++ (beB 1 (nxE ex (if fg = true then 44 else pt)).toNat ++ (beB 1 ho.toNat ++ (fr ++ (to ++ bd6 ex fg id at' mo pt da)))))
def by6R (cl fl ho : Int) (fr to : List UInt8) (ex : List (Int × List UInt8)) (fg : Bool) (id at' : Int) (mo : Bool) (pt : Int) (da : List UInt8) : List UInt8 :=
  if why6 cl fl ho ex fg id at' mo pt da = 0 then by6 cl fl ho fr to ex fg id at' mo pt da else []
structure Ok6 (cl fl ho : Int) (ex : List (Int × List UInt8)) (fg : Bool) (id at' : Int) (mo : Bool) (pt : Int) (da : List UInt8) : Prop where
  rg : rg6 cl fl ho at' pt
  kd : kd6 ex fg pt
  fm : fm6' ex fg id at' mo da
  n8 : ex.length ≤ 8
  all : at' + da.length ≤ 65535
  bh : bh6 ex fg da ≤ 65535
theorem why6_zero {cl fl ho : Int} {ex : List (Int × List UInt8)} {fg : Bool} {id at' : Int} {mo : Bool} {pt : Int} {da : List UInt8} : why6 cl fl ho ex fg id at' mo pt da = 0 ↔ Ok6 cl fl ho ex fg id at' mo pt da := by
  unfold why6
  constructor
  · intro h
    split at h
    case isFalse => simp at h
    rename_i h1
    split at h
    case isFalse => simp at h
    rename_i h2
    split at h
    case isFalse => simp at h
    rename_i h3
    split at h
    case isFalse => simp at h
    rename_i h4
    exact ⟨h1, h2, h3, h4.1, h4.2.1, h4.2.2⟩
  · intro h
    rw [if_pos h.rg, if_pos h.kd, if_pos h.fm, if_pos ⟨h.n8, h.all, h.bh⟩]
theorem fB_le : ∀ (l : List (Int × List UInt8)) (f : Bool), fB f l = true → ∀ e ∈ l, e.2.length % 8 = 6 ∧ e.2.length ≤ 2046
  | [], _, _, e, he => by simp at he
  | x :: l, f, h, e, he => by
    simp only [fB, Bool.and_eq_true, decide_eq_true_eq] at h
    rcases List.mem_cons.1 he with rfl | he
    · exact ⟨h.1.1, h.1.2.1⟩
    · exact fB_le l _ h.2 e he
theorem exB_len : ∀ (l : List (Int × List UInt8)) (p : Int) (b : List UInt8), (exB l p b).length = szE l + b.length
  | [], p, b => by simp [exB, szE]
  | e :: l, p, b => by simp only [exB, szE, List.length_append, beB_len, exB_len l p b]; omega
theorem exB_app (l : List (Int × List UInt8)) (p : Int) (b : List UInt8) : exB l p b = exB l p [] ++ b := by
  induction l with
  | nil => rfl
  | cons e l ih => simp only [exB]; rw [ih]; simp only [List.append_assoc]
theorem nxE_rg {l : List (Int × List UInt8)} {p : Int} (h : kB l = true) (hp : 0 ≤ p ∧ p ≤ 255) : 0 ≤ nxE l p ∧ nxE l p ≤ 255 := by
  cases l with
  | nil => exact hp
  | cons e l =>
    simp only [kB, List.all_cons, Bool.and_eq_true, decide_eq_true_eq] at h
    show 0 ≤ e.1 ∧ e.1 ≤ 255
    rcases h.1 with (h | h) | h <;> omega
theorem szE_drop (l : List (Int × List UInt8)) (i : Nat) : szE (l.drop i) ≤ szE l := by
  conv => rhs; rw [← List.take_append_drop i l, szE_app]
  omega
theorem kB_drop {l : List (Int × List UInt8)} {i : Nat} (h : kB l = true) : kB (l.drop i) = true := by
  unfold kB at *
  rw [List.all_eq_true] at *
  intro e he
  exact h e (List.mem_of_mem_drop he)
theorem or6a {c : Nat} (hc : c ≤ 255) : 1610612736 ||| c * 1048576 = 1610612736 + c * 1048576 := by
  rw [show 1610612736 = 6 <<< 28 by rfl, ← Nat.shiftLeft_add_eq_or_of_lt (by omega)]
theorem or6b {c f : Nat} (hc : c ≤ 255) (hf : f ≤ 1048575) : (1610612736 + c * 1048576) ||| f = 1610612736 + c * 1048576 + f := by
  have h : 1610612736 + c * 1048576 = (1536 + c) <<< 20 := by simp only [Nat.shiftLeft_eq]; omega
  rw [h, ← Nat.shiftLeft_add_eq_or_of_lt (by omega)]
theorem lt4 {x : Int} (h : 0 ≤ x) (h1 : x < 4294967296) : 0 ≤ x ∧ x < ((256 ^ 4 : Nat) : Int) := ⟨h, h1⟩
end Go.Ev

namespace Go.Ev
set_option linter.unusedSimpArgs false
set_option linter.unusedVariables false
set_option maxRecDepth 10000
set_option maxHeartbeats 8000000
theorem chC_rest : ∀ (k : Nat) (f : Bool) (nx : Int) (u : List UInt8), (chC k f nx u).2.2.2.length ≤ u.length
  | 0, f, nx, u => by unfold chC; split <;> (try split) <;> simp
  | k + 1, f, nx, u => by
    unfold chC
    split
    · split
      · simp
      · split
        · simp
        · have := chC_rest k false ((bAt u 0 : Nat) : Int) (u.drop (sz6 u))
          rw [List.length_drop] at this
          simp only
          split <;> (try simp only) <;> omega
    · simp
theorem chC_len : ∀ (k : Nat) (f : Bool) (nx : Int) (u : List UInt8), (chC k f nx u).2.1.length ≤ k
  | 0, f, nx, u => by unfold chC; split <;> (try split) <;> simp
  | k + 1, f, nx, u => by
    unfold chC
    split
    · split
      · simp
      · split
        · simp
        · have := chC_len k false ((bAt u 0 : Nat) : Int) (u.drop (sz6 u))
          simp only
          split <;> (try simp only [List.length_cons]) <;> omega
    · simp
end Go.Ev

namespace Go.Ev
set_option linter.unusedSimpArgs false
set_option linter.unusedVariables false
set_option maxRecDepth 4000
set_option maxHeartbeats 4000000
theorem chC_no {k : Nat} {f : Bool} {n : Int} {s : List UInt8} (h : ¬ isE n) : chC k f n s = (0, [], n, s) := by
  cases k <;> rw [chC, if_neg h]
theorem chC_yes {k : Nat} {f : Bool} {n : Int} {s : List UInt8} (h1 : isE n) (h2 : ¬ (n = 0 ∧ f = false)) (h3 : ¬ s.length < sz6 s) (h4 : (chC k false ((bAt s 0 : Nat) : Int) (s.drop (sz6 s))).1 = 0) :
    chC (k + 1) f n s = (0, (n, (s.drop 2).take (sz6 s - 2)) :: (chC k false ((bAt s 0 : Nat) : Int) (s.drop (sz6 s))).2.1, (chC k false ((bAt s 0 : Nat) : Int) (s.drop (sz6 s))).2.2) := by
  rw [chC, if_pos h1, if_neg h2, if_neg h3]
  simp only [h4, if_true]
theorem chC_inv {k : Nat} {f : Bool} {n : Int} {s : List UInt8} (h : (chC k f n s).1 = 0) (h1 : isE n) :
    ∃ j, k = j + 1 ∧ ¬ (n = 0 ∧ f = false) ∧ ¬ s.length < sz6 s ∧ (chC j false ((bAt s 0 : Nat) : Int) (s.drop (sz6 s))).1 = 0 := by
  cases k with
  | zero =>
    rw [chC, if_pos h1] at h
    split at h <;> simp at h
  | succ j =>
    rw [chC, if_pos h1] at h
    split at h
    · simp at h
    rename_i h2
    split at h
    · simp at h
    rename_i h3
    simp only at h
    split at h
    · rename_i h4
      exact ⟨j, rfl, h2, h3, h4⟩
    · rename_i h4
      exact absurd h h4
theorem chC_more : ∀ (k : Nat) (f : Bool) (n : Int) (s : List UInt8), (chC k false n s).1 = 0 → chC (k + 1) f n s = chC k false n s
  | 0, f, n, s, h => by
    by_cases h1 : isE n
    · obtain ⟨j, hj, _⟩ := chC_inv h h1
      omega
    · rw [chC_no h1, chC_no h1]
  | k + 1, f, n, s, h => by
    by_cases h1 : isE n
    · obtain ⟨j, hj, h2, h3, h4⟩ := chC_inv h h1
      obtain rfl : k = j := by omega
      have ih := chC_more k false _ _ h4
      rw [chC_yes h1 h2 h3 h4, chC_yes h1 (fun q => h2 ⟨q.1, rfl⟩) h3 (by rw [ih]; exact h4), ih]
    · rw [chC_no h1, chC_no h1]
theorem chC_first {k : Nat} {n : Int} {s : List UInt8} (h : (chC k false n s).1 = 0) : ∀ e l, (chC k false n s).2.1 = e :: l → e.1 ≠ 0 := by
  intro e l hl
  by_cases h1 : isE n
  · obtain ⟨j, rfl, h2, h3, h4⟩ := chC_inv h h1
    rw [chC_yes h1 h2 h3 h4] at hl
    simp only [List.cons.injEq] at hl
    rw [← hl.1]
    exact fun q => h2 ⟨q, rfl⟩
  · rw [chC_no h1] at hl
    simp at hl
theorem chC_less : ∀ (k : Nat) (f : Bool) (n : Int) (s : List UInt8), (chC (k + 1) f n s).1 = 0 → (chC (k + 1) f n s).2.1.length ≤ k → (∀ e l, (chC (k + 1) f n s).2.1 = e :: l → e.1 ≠ 0) → chC k false n s = chC (k + 1) f n s
  | 0, f, n, s, h, hl, hf => by
    by_cases h1 : isE n
    · obtain ⟨j, hj, h2, h3, h4⟩ := chC_inv h h1
      obtain rfl : j = 0 := by omega
      rw [chC_yes h1 h2 h3 h4] at hl
      simp at hl
    · rw [chC_no h1, chC_no h1]
  | k + 1, f, n, s, h, hl, hf => by
    by_cases h1 : isE n
    · obtain ⟨j, hj, h2, h3, h4⟩ := chC_inv h h1
      obtain rfl : j = k + 1 := by omega
      rw [chC_yes h1 h2 h3 h4] at hl hf
      have hn : n ≠ 0 := hf _ _ rfl
      have ih := chC_less k false _ _ h4 (by simpa using hl) (chC_first h4)
      rw [chC_yes h1 h2 h3 h4, chC_yes h1 (fun q => hn q.1) h3 (by rw [ih]; exact h4), ih]
    · rw [chC_no h1, chC_no h1]
theorem chC_parts : ∀ (k : Nat) (f : Bool) (n : Int) (s : List UInt8), 0 ≤ n ∧ n ≤ 255 → (chC k f n s).1 = 0 →
    nxE (chC k f n s).2.1 (chC k f n s).2.2.1 = n ∧ szE (chC k f n s).2.1 + (chC k f n s).2.2.2.length = s.length ∧ kB (chC k f n s).2.1 = true ∧ fB f (chC k f n s).2.1 = true ∧
    ¬ isE (chC k f n s).2.2.1 ∧ 0 ≤ (chC k f n s).2.2.1 ∧ (chC k f n s).2.2.1 ≤ 255 := by
  intro k
  induction k with
  | zero =>
    intro f n s hn h
    by_cases h1 : isE n
    · obtain ⟨j, hj, _⟩ := chC_inv h h1
      omega
    · rw [chC_no h1]
      refine ⟨rfl, ?_, rfl, ?_, h1, hn.1, hn.2⟩
      · simp [szE]
      · cases f <;> rfl
  | succ k ih =>
    intro f n s hn h
    by_cases h1 : isE n
    · obtain ⟨j, hj, h2, h3, h4⟩ := chC_inv h h1
      obtain rfl : k = j := by omega
      have hb := bAt_le s 0
      have hb1 := bAt_le s 1
      obtain ⟨i1, i2, i3, i4, i5, i6, i7⟩ := ih false ((bAt s 0 : Nat) : Int) (s.drop (sz6 s)) ⟨by omega, by omega⟩ h4
      rw [List.length_drop] at i2
      have h5 : sz6 s ≤ s.length := by omega
      have h6 : 8 ≤ sz6 s := by unfold sz6; omega
      have hlen : ((s.drop 2).take (sz6 s - 2)).length = sz6 s - 2 := by rw [List.length_take, List.length_drop]; omega
      rw [chC_yes h1 h2 h3 h4]
      refine ⟨rfl, ?_, ?_, ?_, i5, i6, i7⟩
      · simp only [szE, hlen]; omega
      · simp only [kB, List.all_cons, decide_eq_true h1, Bool.true_and]; exact i3
      · simp only [fB, Bool.and_eq_true, decide_eq_true_eq]
        refine ⟨⟨by rw [hlen]; unfold sz6; omega, by rw [hlen]; unfold sz6; omega, fun q => ?_⟩, i4⟩
        cases f
        · exact absurd ⟨q, rfl⟩ h2
        · rfl
    · rw [chC_no h1]
      refine ⟨rfl, ?_, rfl, ?_, h1, hn.1, hn.2⟩
      · simp [szE]
      · cases f <;> rfl
theorem beB4 (x : Nat) : beB 4 x = [UInt8.ofNat (x / 16777216), UInt8.ofNat (x / 65536), UInt8.ofNat (x / 256), UInt8.ofNat x] := by simp [beB, List.range_succ]
theorem numN_beB4 {x : Nat} (h : x < 4294967296) : numN (beB 4 x) = x := by
  rw [beB4]
  simp only [numN, List.foldl_cons, List.foldl_nil, UInt8.toNat_ofNat']
  omega
theorem beB4_numN (a b c d : UInt8) : beB 4 (numN [a, b, c, d]) = [a, b, c, d] := by
  have ha := a.toNat_lt; have hb := b.toNat_lt; have hc := c.toNat_lt; have hd := d.toNat_lt
  rw [beB4]
  simp only [numN, List.foldl_cons, List.foldl_nil]
  congr 1
  · apply UInt8.toNat_inj.1; rw [UInt8.toNat_ofNat']; omega
  congr 1
  · apply UInt8.toNat_inj.1; rw [UInt8.toNat_ofNat']; omega
  congr 1
  · apply UInt8.toNat_inj.1; rw [UInt8.toNat_ofNat']; omega
  congr 1
  apply UInt8.toNat_inj.1; rw [UInt8.toNat_ofNat']; omega
theorem chain_exB : ∀ (l : List (Int × List UInt8)) (k : Nat) (f : Bool) (p : Int) (b : List UInt8), kB l = true → fB f l = true → l.length ≤ k → ¬ isE p → 0 ≤ p ∧ p ≤ 255 → chC k f (nxE l p) (exB l p b) = (0, l, p, b)
  | [], k, f, p, b, _, _, _, hp, _ => chC_no hp
  | e :: l, k, f, p, b, hk, hf, hl, hp, hr => by
    simp only [kB, List.all_cons, Bool.and_eq_true, decide_eq_true_eq] at hk
    simp only [fB, Bool.and_eq_true, decide_eq_true_eq] at hf
    obtain ⟨k, rfl⟩ : ∃ j, k = j + 1 := ⟨k - 1, by simp at hl; omega⟩
    have hk2 : kB l = true := hk.2
    have ih := chain_exB l k false p b hk2 hf.2 (by simpa using hl) hp hr
    have hn := nxE_rg hk2 hr
    obtain ⟨⟨f1, f2, f3⟩, _⟩ := hf
    have h0 : bAt (exB (e :: l) p b) 0 = (nxE l p).toNat := by
      simp only [exB, beB1, List.cons_append, List.nil_append, bAt0, UInt8.toNat_ofNat']; omega
    have h1 : bAt (exB (e :: l) p b) 1 = e.2.length / 8 := by
      simp only [exB, beB1, List.cons_append, List.nil_append, bAt0, bAts, UInt8.toNat_ofNat']; omega
    have hz : sz6 (exB (e :: l) p b) = e.2.length + 2 := by unfold sz6; rw [h1]; omega
    have hlen := exB_len (e :: l) p b
    simp only [szE] at hlen
    have hd : (exB (e :: l) p b).drop (sz6 (exB (e :: l) p b)) = exB l p b := by
      rw [hz]; simp only [exB, beB1, List.cons_append, List.nil_append, List.drop_succ_cons]
      exact List.drop_left' rfl
    have ht : ((exB (e :: l) p b).drop 2).take (sz6 (exB (e :: l) p b) - 2) = e.2 := by
      rw [hz]; simp only [exB, beB1, List.cons_append, List.nil_append, List.drop_succ_cons, List.drop_zero]
      exact List.take_left' (by omega)
    have hi : ((bAt (exB (e :: l) p b) 0 : Nat) : Int) = nxE l p := by rw [h0]; omega
    have hc : chC k false ((bAt (exB (e :: l) p b) 0 : Nat) : Int) ((exB (e :: l) p b).drop (sz6 (exB (e :: l) p b))) = (0, l, p, b) := by rw [hd, hi, ih]
    show chC (k + 1) f e.1 (exB (e :: l) p b) = _
    rw [chC_yes hk.1 (fun q => by have := f3 q.1; rw [q.2] at this; simp at this) (by omega) (by rw [hc]), hc, ht]
theorem bd6_len {ex : List (Int × List UInt8)} {fg : Bool} {id at' : Int} {mo : Bool} {pt : Int} {da : List UInt8} : (bd6 ex fg id at' mo pt da).length = bh6 ex fg da := by
  unfold bd6 bh6
  cases fg
  · rw [if_neg Bool.false_ne_true, if_neg Bool.false_ne_true, exB_len]; omega
  · rw [if_pos rfl, if_pos rfl, exB_len]
    simp only [pcB, List.length_append, List.length_cons, beB_len]
    omega
theorem by6_len {cl fl ho : Int} {fr to : List UInt8} {ex : List (Int × List UInt8)} {fg : Bool} {id at' : Int} {mo : Bool} {pt : Int} {da : List UInt8} (hfr : fr.length = 16) (hto : to.length = 16) :
    (by6 cl fl ho fr to ex fg id at' mo pt da).length = 40 + bh6 ex fg da := by
  unfold by6
  simp only [List.length_append, beB_len, bd6_len, hfr, hto]
  omega
def H6 (x n nx ho : Nat) : List UInt8 := [UInt8.ofNat (x / 16777216), UInt8.ofNat (x / 65536), UInt8.ofNat (x / 256), UInt8.ofNat x, UInt8.ofNat (n / 256), UInt8.ofNat n, UInt8.ofNat nx, UInt8.ofNat ho]
theorem by6_eq (cl fl ho : Int) (fr to : List UInt8) (ex : List (Int × List UInt8)) (fg : Bool) (id at' : Int) (mo : Bool) (pt : Int) (da : List UInt8) : by6 cl fl ho fr to ex fg id at' mo pt da =
    H6 (1610612736 + cl.toNat * 1048576 + fl.toNat) (bd6 ex fg id at' mo pt da).length (nxE ex (if fg = true then 44 else pt)).toNat ho.toNat ++ (fr ++ (to ++ bd6 ex fg id at' mo pt da)) := by
  unfold by6 H6
  simp only [beB1, beB2, beB4, List.cons_append, List.nil_append]
theorem head6 {x n nx ho : Nat} {fr to bd t : List UInt8} (hx : x < 4294967296) (hn : n ≤ 65535) (hnx : nx ≤ 255) (hho : ho ≤ 255) (hfr : fr.length = 16) (hto : to.length = 16) (hbd : bd.length = n)
    {Y : List UInt8} (hY : Y = H6 x n nx ho ++ (fr ++ (to ++ bd)) ++ t) :
    bAt Y 0 = x / 16777216 ∧ wAt Y 4 = n ∧ bAt Y 6 = nx ∧ bAt Y 7 = ho ∧ numN (Y.take 4) = x ∧ pfr6 Y = fr ∧ pto6 Y = to ∧ (Y.drop 40).take n = bd ∧ Y.length = 40 + n + t.length := by
  subst hY
  have e8 : ∀ u : List UInt8, (H6 x n nx ho ++ u).drop 8 = u := fun u => rfl
  refine ⟨?_, ?_, ?_, ?_, ?_, ?_, ?_, ?_, ?_⟩
  · simp only [H6, List.cons_append, List.nil_append, bAt0, UInt8.toNat_ofNat']; omega
  · simp only [H6, List.cons_append, List.nil_append, wAt0, wAts]; exact w16_beB (by omega)
  · simp only [H6, List.cons_append, List.nil_append, bAt0, bAts, UInt8.toNat_ofNat']; omega
  · simp only [H6, List.cons_append, List.nil_append, bAt0, bAts, UInt8.toNat_ofNat']; omega
  · rw [show (H6 x n nx ho ++ (fr ++ (to ++ bd)) ++ t).take 4 = beB 4 x by rw [beB4]; rfl]
    exact numN_beB4 hx
  · unfold pfr6
    rw [List.append_assoc, e8, List.append_assoc, List.take_left' hfr]
  · unfold pto6
    rw [List.append_assoc, show 24 = 8 + 16 by rfl, ← List.drop_drop, e8, List.append_assoc, List.drop_left' hfr, List.append_assoc, List.take_left' hto]
  · rw [List.append_assoc, show 40 = 8 + (16 + 16) by rfl, ← List.drop_drop, ← List.drop_drop, e8, List.append_assoc, List.drop_left' hfr, List.append_assoc, List.drop_left' hto, List.take_left' hbd]
  · simp only [H6, List.length_append, List.length_cons, List.length_nil]; omega
theorem piece6 {id a : Nat} {mo : Bool} {pt : Nat} {da : List UInt8} (hid : id < 4294967296) (ha : a ≤ 65528) (ha8 : a % 8 = 0) (hpt : pt ≤ 255) :
    bAt (pcB (id : Int) (a : Int) mo (pt : Int) da) 0 = pt ∧ fa6 (pcB (id : Int) (a : Int) mo (pt : Int) da) = a ∧ fm6 (pcB (id : Int) (a : Int) mo (pt : Int) da) = mo ∧ fi6 (pcB (id : Int) (a : Int) mo (pt : Int) da) = id ∧
    (pcB (id : Int) (a : Int) mo (pt : Int) da).drop 8 = da ∧ (pcB (id : Int) (a : Int) mo (pt : Int) da).length = 8 + da.length := by
  have hw : wAt (pcB (id : Int) (a : Int) mo (pt : Int) da) 2 = a + if mo = true then 1 else 0 := by
    simp only [pcB, beB1, beB2, List.cons_append, List.nil_append, wAt0, wAts, Int.toNat_natCast]
    exact w16_beB (by split <;> omega)
  refine ⟨?_, ?_, ?_, ?_, ?_, ?_⟩
  · simp only [pcB, beB1, List.cons_append, List.nil_append, bAt0, UInt8.toNat_ofNat', Int.toNat_natCast]; omega
  · unfold fa6; rw [hw]; split <;> omega
  · unfold fm6; rw [hw]
    cases mo
    · rw [if_neg Bool.false_ne_true]; exact decide_eq_false (by omega)
    · rw [if_pos rfl]; exact decide_eq_true (by omega)
  · unfold fi6
    rw [show ((pcB (id : Int) (a : Int) mo (pt : Int) da).drop 4).take 4 = beB 4 id by simp only [pcB, beB1, beB2, beB4, List.cons_append, List.nil_append, Int.toNat_natCast]; rfl]
    exact numN_beB4 hid
  · simp only [pcB, beB1, beB2, beB4, List.cons_append, List.nil_append]; rfl
  · simp only [pcB, List.length_append, List.length_cons, beB_len]; omega
theorem parse_by6 {cl fl ho : Int} {fr to : List UInt8} {ex : List (Int × List UInt8)} {fg : Bool} {id at' : Int} {mo : Bool} {pt : Int} {da : List UInt8} (ok : Ok6 cl fl ho ex fg id at' mo pt da) (hid : 0 ≤ id ∧ id ≤ 4294967295)
    (hfr : fr.length = 16) (hto : to.length = 16) (t : List UInt8) :
    pK6 (by6 cl fl ho fr to ex fg id at' mo pt da ++ t) = 0 ∧ pLV6 (by6 cl fl ho fr to ex fg id at' mo pt da ++ t) = ip6LV cl fl ho fr to (extsLV ex) fg id at' mo pt da ∧ wAt (by6 cl fl ho fr to ex fg id at' mo pt da ++ t) 4 = bh6 ex fg da := by
  obtain ⟨⟨⟨a1, a2⟩, ⟨a3, a4⟩, ⟨a5, a6⟩, ⟨a7, a8⟩, ⟨a9, a10⟩, a11⟩, ⟨b1, b2⟩, ⟨c1, c2⟩, d1, d2, d3⟩ := ok
  obtain ⟨cl, rfl⟩ := Int.eq_ofNat_of_zero_le a1
  obtain ⟨fl, rfl⟩ := Int.eq_ofNat_of_zero_le a3
  obtain ⟨ho, rfl⟩ := Int.eq_ofNat_of_zero_le a5
  obtain ⟨pt, rfl⟩ := Int.eq_ofNat_of_zero_le a7
  obtain ⟨a, rfl⟩ := Int.eq_ofNat_of_zero_le a9
  obtain ⟨id, rfl⟩ := Int.eq_ofNat_of_zero_le hid.1
  have a11 : ((a % 8 : Nat) : Int) = 0 := a11
  have hbl := bd6_len (ex := ex) (fg := fg) (id := id) (at' := a) (mo := mo) (pt := pt) (da := da)
  have hp : ¬ isE (if fg = true then 44 else (pt : Int)) ∧ 0 ≤ (if fg = true then 44 else (pt : Int)) ∧ (if fg = true then 44 else (pt : Int)) ≤ 255 := by
    cases fg
    · rw [if_neg Bool.false_ne_true]; exact ⟨(b2 rfl).1, by omega, by omega⟩
    · rw [if_pos rfl]; exact ⟨by decide, by omega, by omega⟩
  have hnx := nxE_rg b1 hp.2
  have heq := by6_eq cl fl ho fr to ex fg id a mo pt da
  have hch := fun b => chain_exB ex 8 true (if fg = true then 44 else (pt : Int)) b b1 c1 d1 hp.1 hp.2
  generalize hY : by6 (cl : Int) fl ho fr to ex fg id a mo pt da ++ t = Y
  rw [heq] at hY
  simp only [Int.toNat_natCast] at hY
  obtain ⟨e1, e2, e3, e4, e5, e6, e7, e8, e9⟩ := head6 (by omega) (by omega) (by omega) (by omega) hfr hto rfl hY.symm
  rw [hbl] at e2 e9
  have hk : k6 Y = (0, ex, (if fg = true then 44 else (pt : Int)), (if fg = true then pcB id a mo pt da else da)) := by
    unfold k6
    rw [e2, ← hbl, e8, e3, Int.toNat_of_nonneg hnx.1]
    unfold bd6
    cases fg
    · exact hch _
    · exact hch _
  have hR : kR6 (k6 Y) = 0 := by
    rw [hk]
    unfold kR6
    rw [if_neg (by simp)]
    cases fg
    · rw [if_neg Bool.false_ne_true, if_pos (by have := (b2 rfl).2; simpa using this)]
    · obtain ⟨p1, p2, p3, p4, p5, p6⟩ := piece6 (id := id) (a := a) (mo := mo) (pt := pt) (da := da) (by omega) (by omega) (by omega) (by omega)
      simp only [if_true]
      rw [if_neg (by simp)]
      unfold kF6
      rw [if_neg (by omega), p3, p2, p5, if_pos]
      rw [if_pos rfl] at c2
      exact ⟨c2, by omega⟩
  have hK : pK6 Y = 0 := by
    unfold pK6
    rw [if_neg (by omega), if_neg (by omega), if_neg (by omega), hR]
  refine ⟨hK, ?_, e2⟩
  unfold pLV6
  rw [if_pos hK, hk]
  have q1 : pcl6 Y = (cl : Int) := by unfold pcl6; rw [e5]; omega
  have q2 : pfl6 Y = (fl : Int) := by unfold pfl6; rw [e5]; omega
  unfold mk6
  rw [q1, q2, e4, e6, e7]
  cases fg
  · simp only [Bool.false_eq_true, if_false] at c2 ⊢
    have hpt := (b2 rfl).2
    obtain ⟨i1, i2, i3⟩ := c2
    rw [if_neg hpt, i1, i2, i3]
  · obtain ⟨p1, p2, p3, p4, p5, p6⟩ := piece6 (id := id) (a := a) (mo := mo) (pt := pt) (da := da) (by omega) (by omega) (by omega) (by omega)
    simp only [if_true]
    rw [p1, p2, p3, p4, p5]
theorem pK6_40' {s : List UInt8} (h : pK6 s = 0) : 40 ≤ s.length := by
  unfold pK6 at h
  split at h
  · simp at h
  · omega
theorem getD_take6 {s : List UInt8} {i m : Nat} (h : i < m) : (s.take m).getD i 0 = s.getD i 0 := by
  rw [List.getD_eq_getElem?_getD, List.getD_eq_getElem?_getD, List.getElem?_take_of_lt h]
theorem cut_none6 {Y : List UInt8} {m : Nat} (hw : 40 + wAt Y 4 = Y.length) (hm : m < Y.length) : ¬ pK6 (Y.take m) = 0 := by
  intro h
  have h40 := pK6_40' h
  rw [List.length_take] at h40
  have hw2 : wAt (Y.take m) 4 = wAt Y 4 := by unfold wAt; rw [getD_take6 (by omega), getD_take6 (by omega)]
  unfold pK6 at h
  rw [if_neg (by rw [List.length_take]; omega)] at h
  split at h
  · simp at h
  split at h
  · simp at h
  · rename_i h3
    rw [hw2, List.length_take] at h3
    omega
theorem why6_hop {cl fl ho : Int} {ex : List (Int × List UInt8)} {fg : Bool} {id at' : Int} {mo : Bool} {pt : Int} {da : List UInt8} (h : why6 cl fl ho ex fg id at' mo pt da = 0) {t : Int} (ht : 0 ≤ t ∧ t ≤ 255) : why6 cl fl t ex fg id at' mo pt da = 0 := by
  obtain ⟨⟨o1, o2, o3, o4, o5, o6⟩, r2, r3, r4, r5, r6⟩ := why6_zero.1 h
  exact why6_zero.2 ⟨⟨o1, o2, ht, o4, o5, o6⟩, r2, r3, r4, r5, r6⟩
structure Par6 (s : List UInt8) : Prop where
  h40 : 40 ≤ s.length
  hv : bAt s 0 / 16 = 6
  hl : 40 + wAt s 4 ≤ s.length
  hk : (k6 s).1 = 0
  hf : (k6 s).2.2.1 = 44 → 8 ≤ (k6 s).2.2.2.length ∧ okF6 (fm6 (k6 s).2.2.2) (fa6 (k6 s).2.2.2) ((k6 s).2.2.2.drop 8)
theorem pK6_zero {s : List UInt8} (h : pK6 s = 0) : Par6 s := by
  unfold pK6 kR6 kF6 at h
  split at h
  · simp at h
  rename_i h1
  split at h
  · simp at h
  rename_i h2
  split at h
  · simp at h
  rename_i h3
  split at h
  · rename_i h4; exact absurd h h4
  rename_i h4
  refine ⟨by omega, by omega, by omega, Classical.byContradiction fun q => h4 q, ?_⟩
  intro h5
  rw [if_neg (fun q => q h5)] at h
  split at h
  · simp at h
  rename_i h6
  split at h
  · rename_i h7; exact ⟨by omega, h7⟩
  · simp at h
end Go.Ev

namespace Go.Ev
set_option linter.unusedSimpArgs false
set_option linter.unusedVariables false
set_option maxRecDepth 4000
set_option maxHeartbeats 2000000
section
variable {S : Sys} (hS : Has S) (n : Nat)
include hS
theorem ev_Words (s : List UInt8) (hs : s.length ≤ 1000000) : S.ev (n + 1) id_interpreterref02_Words [.str s] none = some (.lst none (intsLV (wordsN s)), none) := by
  rw [Sys.step hS.h_interpreterref02_Words, F_interpreterref02_Words_eq]
  unfold F_interpreterref02_Words
  (try simp only [guard_merge, or_merge, and_merge, or_pick, and_pick, guard_or, guard_and]); simp only [to_ob]
  have e1 : Int.tmod (s.length : Int) 2 = ((s.length % 2 : Nat) : Int) := by rw [Int.tmod_eq_emod_of_nonneg (by omega)]; omega
  by_cases hpar : s.length % 2 = 1
  · have hq : ((s.length % 2 : Nat) : Int) = 1 := by omega
    have hms : s.length + (0 + 1) ≤ maxStr := by unfold maxStr; omega
    simp only [go_sem, ↓reduceIte, reduceCtorEq, upd_ne, back_new (no_at), Nat.reduceAdd, Nat.reduceEqDiff, Nat.reduceMul, Nat.reduceSub, Nat.reduceLeDiff, Nat.reduceLT, Int.reduceToNat, Int.reduceLE, Int.reduceLT, Int.reduceEq, UInt8.reduceOfNat, ↓e_sadd, e1, hq, hms]
    have hw := wordsN_odd s hpar
    have hlen : (s ++ [0]).length % 2 = 0 := by simp; omega
    have hle : (s ++ [0]).length ≤ 1000001 := by simp; omega
    generalize s ++ [0] = t at hw hlen hle
    rw [← hw]
    refine while_rule (fun k q => ∃ i : Nat, q = ([.lst (some (3, 1)) (intsLV (wordsN (t.take (2 * i)))), .int .i64 ((2 * i : Nat) : Int)], upd noSlots 3 (.tag 1 i 1)) ∧ 2 * (i + k) = t.length) (t.length / 2) ⟨0, by simp [wordsN], by omega⟩ ?_
    rintro k q ⟨i, rfl, hi⟩
    simp only [go_sem, ↓reduceIte, reduceCtorEq, upd_ne, back_new (no_at), Nat.reduceAdd, Nat.reduceEqDiff, Nat.reduceMul, Nat.reduceSub, Nat.reduceLeDiff, Nat.reduceLT, Int.reduceToNat, Int.reduceLE, Int.reduceLT, Int.reduceEq, UInt8.reduceOfNat]
    refine nxt_ite (fun h => ?_) (fun h => ?_)
    · have hlt : 2 * i < t.length := by omega
      obtain ⟨a, ha⟩ : ∃ a, t[2 * i]? = some a := ⟨t[2 * i], by simp [hlt]⟩
      have hlt2 : 2 * i + 1 < t.length := by omega
      obtain ⟨b, hb⟩ : ∃ b, t[2 * i + 1]? = some b := ⟨t[2 * i + 1], by simp [hlt2]⟩
      have hal := a.toNat_lt
      have hbl := b.toNat_lt
      have e2 : IntKind.i64.wrap (a.toNat : Int) = (a.toNat : Int) := wrap_id (by omega) (by omega)
      have e3 : IntKind.i64.wrap (b.toNat : Int) = (b.toNat : Int) := wrap_id (by omega) (by omega)
      have e4 : IntKind.i64.wrap (256 * (a.toNat : Int)) = ((256 * a.toNat : Nat) : Int) := by rw [wrap_id (by omega) (by omega)]; omega
      have e5 : IntKind.i64.wrap (((2 * i : Nat) : Int) + 1) = ((2 * i + 1 : Nat) : Int) := by rw [wrap_id (by omega) (by omega)]; omega
      have e6 : IntKind.i64.wrap (((256 * a.toNat : Nat) : Int) + (b.toNat : Int)) = ((256 * a.toNat + b.toNat : Nat) : Int) := by rw [wrap_id (by omega) (by omega)]; omega
      have e7 : IntKind.i64.wrap (((2 * i : Nat) : Int) + 2) = ((2 * (i + 1) : Nat) : Int) := by rw [wrap_id (by omega) (by omega)]; omega
      have hwl : (wordsN (t.take (2 * i))).length = i := by rw [wordsN_len, List.length_take]; omega
      have hap := wAppend_tag (e := 1) (by' := 8) (d := 32) (t := 3) (g := 1) (n := i) (sz := 1) (sl := upd noSlots 3 (.tag 1 i 1)) (l := intsLV (wordsN (t.take (2 * i)))) (new := [.int .i64 ((256 * a.toNat + b.toNat : Nat) : Int)]) upd_same (by simp [hwl]) rfl (ints_flat _) (by simp [flatLen]) (by simp) (by simp [hwl]; omega)
      simp only [go_sem, ↓reduceIte, reduceCtorEq, upd_ne, back_new (no_at), Nat.reduceAdd, Nat.reduceEqDiff, Nat.reduceMul, Nat.reduceSub, Nat.reduceLeDiff, Nat.reduceLT, Int.reduceToNat, Int.reduceLE, Int.reduceLT, Int.reduceEq, UInt8.reduceOfNat, List.getElem?_map, Int.toNat_natCast, ha, hb, e2, e3, e4, e5, e6, e7, hap]
      refine ⟨k - 1, by omega, i + 1, ?_, by omega⟩
      rw [wordsN_take t i a b ha hb]
      simp
    · rw [List.take_of_length_le (by omega)]
      simp only [go_sem, ↓reduceIte, reduceCtorEq, upd_ne, back_new (no_at), Nat.reduceAdd, Nat.reduceEqDiff, Nat.reduceMul, Nat.reduceSub, Nat.reduceLeDiff, Nat.reduceLT, Int.reduceToNat, Int.reduceLE, Int.reduceLT, Int.reduceEq, UInt8.reduceOfNat, Nxt, exIf]
  · have hq : ¬ ((s.length % 2 : Nat) : Int) = 1 := by omega
    simp only [go_sem, ↓reduceIte, reduceCtorEq, upd_ne, back_new (no_at), Nat.reduceAdd, Nat.reduceEqDiff, Nat.reduceMul, Nat.reduceSub, Nat.reduceLeDiff, Nat.reduceLT, Int.reduceToNat, Int.reduceLE, Int.reduceLT, Int.reduceEq, UInt8.reduceOfNat, e1, hq]
    have hlen : s.length % 2 = 0 := by omega
    have hle : s.length ≤ 1000001 := by omega
    generalize s = t at hlen hle
    refine while_rule (fun k q => ∃ i : Nat, q = ([.lst (some (3, 1)) (intsLV (wordsN (t.take (2 * i)))), .int .i64 ((2 * i : Nat) : Int)], upd noSlots 3 (.tag 1 i 1)) ∧ 2 * (i + k) = t.length) (t.length / 2) ⟨0, by simp [wordsN], by omega⟩ ?_
    rintro k q ⟨i, rfl, hi⟩
    simp only [go_sem, ↓reduceIte, reduceCtorEq, upd_ne, back_new (no_at), Nat.reduceAdd, Nat.reduceEqDiff, Nat.reduceMul, Nat.reduceSub, Nat.reduceLeDiff, Nat.reduceLT, Int.reduceToNat, Int.reduceLE, Int.reduceLT, Int.reduceEq, UInt8.reduceOfNat]
    refine nxt_ite (fun h => ?_) (fun h => ?_)
    · have hlt : 2 * i < t.length := by omega
      obtain ⟨a, ha⟩ : ∃ a, t[2 * i]? = some a := ⟨t[2 * i], by simp [hlt]⟩
      have hlt2 : 2 * i + 1 < t.length := by omega
      obtain ⟨b, hb⟩ : ∃ b, t[2 * i + 1]? = some b := ⟨t[2 * i + 1], by simp [hlt2]⟩
      have hal := a.toNat_lt
      have hbl := b.toNat_lt
      have e2 : IntKind.i64.wrap (a.toNat : Int) = (a.toNat : Int) := wrap_id (by omega) (by omega)
      have e3 : IntKind.i64.wrap (b.toNat : Int) = (b.toNat : Int) := wrap_id (by omega) (by omega)
      have e4 : IntKind.i64.wrap (256 * (a.toNat : Int)) = ((256 * a.toNat : Nat) : Int) := by rw [wrap_id (by omega) (by omega)]; omega
      have e5 : IntKind.i64.wrap (((2 * i : Nat) : Int) + 1) = ((2 * i + 1 : Nat) : Int) := by rw [wrap_id (by omega) (by omega)]; omega
      have e6 : IntKind.i64.wrap (((256 * a.toNat : Nat) : Int) + (b.toNat : Int)) = ((256 * a.toNat + b.toNat : Nat) : Int) := by rw [wrap_id (by omega) (by omega)]; omega
      have e7 : IntKind.i64.wrap (((2 * i : Nat) : Int) + 2) = ((2 * (i + 1) : Nat) : Int) := by rw [wrap_id (by omega) (by omega)]; omega
      have hwl : (wordsN (t.take (2 * i))).length = i := by rw [wordsN_len, List.length_take]; omega
      have hap := wAppend_tag (e := 1) (by' := 8) (d := 32) (t := 3) (g := 1) (n := i) (sz := 1) (sl := upd noSlots 3 (.tag 1 i 1)) (l := intsLV (wordsN (t.take (2 * i)))) (new := [.int .i64 ((256 * a.toNat + b.toNat : Nat) : Int)]) upd_same (by simp [hwl]) rfl (ints_flat _) (by simp [flatLen]) (by simp) (by simp [hwl]; omega)
      simp only [go_sem, ↓reduceIte, reduceCtorEq, upd_ne, back_new (no_at), Nat.reduceAdd, Nat.reduceEqDiff, Nat.reduceMul, Nat.reduceSub, Nat.reduceLeDiff, Nat.reduceLT, Int.reduceToNat, Int.reduceLE, Int.reduceLT, Int.reduceEq, UInt8.reduceOfNat, List.getElem?_map, Int.toNat_natCast, ha, hb, e2, e3, e4, e5, e6, e7, hap]
      refine ⟨k - 1, by omega, i + 1, ?_, by omega⟩
      rw [wordsN_take t i a b ha hb]
      simp
    · rw [List.take_of_length_le (by omega)]
      simp only [go_sem, ↓reduceIte, reduceCtorEq, upd_ne, back_new (no_at), Nat.reduceAdd, Nat.reduceEqDiff, Nat.reduceMul, Nat.reduceSub, Nat.reduceLeDiff, Nat.reduceLT, Int.reduceToNat, Int.reduceLE, Int.reduceLT, Int.reduceEq, UInt8.reduceOfNat, Nxt, exIf]
end
end Go.Ev

namespace Go.Ev
set_option linter.unusedSimpArgs false
set_option linter.unusedVariables false
set_option maxRecDepth 4000
set_option maxHeartbeats 2000000
section
variable {S : Sys} (hS : Has S) (n : Nat)
include hS
theorem ev_Total (l : List Nat) (h1 : ∀ w ∈ l, w ≤ 65535) (h2 : l.length ≤ 1000000) : S.ev (n + 1) id_interpreterref02_Total [.lst none (intsLV l)] none = some (.int .i64 (ones l.sum : Nat), none) := by
  rw [Sys.step hS.h_interpreterref02_Total, F_interpreterref02_Total_eq]
  unfold F_interpreterref02_Total
  (try simp only [guard_merge, or_merge, and_merge, or_pick, and_pick, guard_or, guard_and]); simp only [to_ob]
  simp only [go_sem, ↓reduceIte, reduceCtorEq, upd_ne, back_new (no_at), Nat.reduceAdd, Nat.reduceEqDiff, Nat.reduceMul, Nat.reduceSub, Nat.reduceLeDiff, Nat.reduceLT, Int.reduceToNat, Int.reduceLE, Int.reduceLT, Int.reduceEq, UInt8.reduceOfNat]
  have hsum : ∀ i, (l.take i).sum ≤ 65535 * i := by
    intro i
    induction i with
    | zero => simp
    | succ i ih =>
      rw [List.take_add_one]
      cases hc : l[i]? with
      | none => simp; omega
      | some w =>
        have := h1 w (List.mem_of_getElem? hc)
        simp; omega
  have hs : l.sum ≤ 65535 * l.length := by have := hsum l.length; rwa [List.take_length] at this
  refine while_rule (fun k q => ∃ i : Nat, q = ([.int .i64 ((l.take i).sum : Nat), .int .i64 (i : Int)], noSlots) ∧ i + k = l.length) l.length ⟨0, by simp, by simp⟩ ?_
  rintro k q ⟨i, rfl, hi⟩
  simp only [go_sem, ↓reduceIte, reduceCtorEq, upd_ne, back_new (no_at), Nat.reduceAdd, Nat.reduceEqDiff, Nat.reduceMul, Nat.reduceSub, Nat.reduceLeDiff, Nat.reduceLT, Int.reduceToNat, Int.reduceLE, Int.reduceLT, Int.reduceEq, UInt8.reduceOfNat, List.length_map]
  refine nxt_ite (fun h => ?_) (fun h => ?_)
  · have hlt : i < l.length := by omega
    obtain ⟨w, hw⟩ : ∃ w, l[i]? = some w := ⟨l[i], by simp [hlt]⟩
    have := h1 w (List.mem_of_getElem? hw)
    have hb := hsum i
    have e1 : IntKind.i64.wrap (((l.take i).sum : Nat) + (w : Int)) = ((l.take (i + 1)).sum : Nat) := by
      rw [wrap_id (by omega) (by omega), List.take_add_one, hw]; simp
    have e2 : IntKind.i64.wrap ((i : Int) + 1) = ((i + 1 : Nat) : Int) := by rw [wrap_id (by omega) (by omega)]; omega
    simp only [go_sem, ↓reduceIte, reduceCtorEq, upd_ne, back_new (no_at), Nat.reduceAdd, Nat.reduceEqDiff, Nat.reduceMul, Nat.reduceSub, Nat.reduceLeDiff, Nat.reduceLT, Int.reduceToNat, Int.reduceLE, Int.reduceLT, Int.reduceEq, UInt8.reduceOfNat, List.getElem?_map, Int.toNat_natCast, hw, e1, e2]
    exact ⟨k - 1, by omega, i + 1, rfl, by omega⟩
  · rw [List.take_of_length_le (by omega)]
    simp only [go_sem, ↓reduceIte, reduceCtorEq, upd_ne, back_new (no_at), Nat.reduceAdd, Nat.reduceEqDiff, Nat.reduceMul, Nat.reduceSub, Nat.reduceLeDiff, Nat.reduceLT, Int.reduceToNat, Int.reduceLE, Int.reduceLT, Int.reduceEq, UInt8.reduceOfNat, Nxt, exIf]
    refine while_rule (fun k q => ∃ x : Nat, q = ([.int .i64 (x : Int)], noSlots) ∧ k = x ∧ ones x = ones l.sum ∧ x ≤ 9223372036854775807) l.sum ⟨_, rfl, rfl, rfl, by omega⟩ ?_
    rintro k q ⟨x, rfl, rfl, hx, hb⟩
    simp only [go_sem, ↓reduceIte, reduceCtorEq, upd_ne, back_new (no_at), Nat.reduceAdd, Nat.reduceEqDiff, Nat.reduceMul, Nat.reduceSub, Nat.reduceLeDiff, Nat.reduceLT, Int.reduceToNat, Int.reduceLE, Int.reduceLT, Int.reduceEq, UInt8.reduceOfNat]
    refine nxt_ite (fun h => ?_) (fun h => ?_)
    · have e1 : IntKind.i64.wrap (Int.tdiv (k : Int) 65536) = ((k / 65536 : Nat) : Int) := by
        rw [show Int.tdiv (k : Int) 65536 = ((k / 65536 : Nat) : Int) from rfl, wrap_id (by omega) (by omega)]
      have e2 : Int.tmod (k : Int) 65536 = ((k % 65536 : Nat) : Int) := rfl
      have e3 : IntKind.i64.wrap (((k / 65536 : Nat) : Int) + ((k % 65536 : Nat) : Int)) = ((k / 65536 + k % 65536 : Nat) : Int) := by
        rw [wrap_id (by omega) (by omega)]; omega
      have hk : 65535 < k := by omega
      simp only [go_sem, ↓reduceIte, reduceCtorEq, upd_ne, back_new (no_at), Nat.reduceAdd, Nat.reduceEqDiff, Nat.reduceMul, Nat.reduceSub, Nat.reduceLeDiff, Nat.reduceLT, Int.reduceToNat, Int.reduceLE, Int.reduceLT, Int.reduceEq, UInt8.reduceOfNat, e1, e2, e3]
      exact ⟨_, by omega, _, rfl, rfl, by rw [ones_step hk, hx], by omega⟩
    · have hk : k ≤ 65535 := by omega
      simp only [go_sem, ↓reduceIte, reduceCtorEq, upd_ne, back_new (no_at), Nat.reduceAdd, Nat.reduceEqDiff, Nat.reduceMul, Nat.reduceSub, Nat.reduceLeDiff, Nat.reduceLT, Int.reduceToNat, Int.reduceLE, Int.reduceLT, Int.reduceEq, UInt8.reduceOfNat, Nxt, exIf]
      rw [← hx, ones_small hk]
theorem ev_rOf (s : List UInt8) (hs : s.length ≤ 1000000) : S.ev (n + 2) id_interpreterref02_Of [.str s] none = some (.int .i64 (65535 - (ones (sumAt 0 s) : Nat)), none) := by
  rw [Sys.step hS.h_interpreterref02_Of, F_interpreterref02_Of_eq]
  unfold F_interpreterref02_Of
  have h1 := ev_Words hS n s hs
  have h2 := ev_Total hS n (wordsN s) (wordsN_le s) (by rw [wordsN_len]; omega)
  rw [wordsN_sum] at h2
  have ho := ones_le (sumAt 0 s)
  have e1 : IntKind.i64.wrap (65535 - ((ones (sumAt 0 s) : Nat) : Int)) = 65535 - ((ones (sumAt 0 s) : Nat) : Int) := wrap_id (by omega) (by omega)
  (try simp only [guard_merge, or_merge, and_merge, or_pick, and_pick, guard_or, guard_and]); simp only [to_ob]
  simp only [go_sem, ↓reduceIte, reduceCtorEq, upd_ne, back_new (no_at), Nat.reduceAdd, Nat.reduceEqDiff, Nat.reduceMul, Nat.reduceSub, Nat.reduceLeDiff, Nat.reduceLT, Int.reduceToNat, Int.reduceLE, Int.reduceLT, Int.reduceEq, UInt8.reduceOfNat, h1, h2, e1]
end
end Go.Ev
