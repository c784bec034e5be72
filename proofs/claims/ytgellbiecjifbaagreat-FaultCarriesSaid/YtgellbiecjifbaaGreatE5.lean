/- Part 5 of a proof: what the functions yield. It stands by itself; no condition. -/
import Derived.Test.YtgellbiecjifbaaGreatE2
import Derived.Test.YtgellbiecjifbaaGreatE4
namespace Go.Ev
set_option linter.unusedSimpArgs false
set_option linter.unusedVariables false
set_option maxRecDepth 4000
set_option maxHeartbeats 2000000
def sumAt : Nat → List UInt8 → Nat
  | _, [] => 0
  | p, c :: s => (if p % 2 = 0 then c.toNat * 256 else c.toNat) + sumAt (p + 1) s
theorem sumAt_append : ∀ (a b : List UInt8) (p : Nat), sumAt p (a ++ b) = sumAt p a + sumAt (p + a.length) b
  | [], b, p => by simp [sumAt]
  | c :: a, b, p => by
    simp only [List.cons_append, sumAt, sumAt_append a b (p + 1), List.length_cons]
    rw [show p + 1 + a.length = p + (a.length + 1) by omega]
    omega
theorem sumAt_le : ∀ (s : List UInt8) (p : Nat), sumAt p s ≤ 65280 * s.length
  | [], p => by simp [sumAt]
  | c :: s, p => by
    have := sumAt_le s (p + 1)
    have hc := c.toNat_lt
    simp only [sumAt, List.length_cons]
    split <;> omega
theorem sumAt_two : ∀ (s : List UInt8) (p : Nat), sumAt (p + 2) s = sumAt p s
  | [], p => rfl
  | c :: s, p => by
    simp only [sumAt]
    rw [show p + 2 + 1 = p + 1 + 2 by omega, sumAt_two s (p + 1), show (p + 2) % 2 = p % 2 by omega]
def ones (n : Nat) : Nat := if n = 0 then 0 else (n - 1) % 65535 + 1
theorem ones_le (n : Nat) : ones n ≤ 65535 := by unfold ones; split <;> omega
theorem ones_small {n : Nat} (h : n ≤ 65535) : ones n = n := by unfold ones; split <;> omega
theorem ones_step {n : Nat} (h : 65535 < n) : ones (n / 65536 + n % 65536) = ones n := by
  unfold ones
  rw [if_neg (by omega), if_neg (by omega)]
  omega
theorem ones_add (a b : Nat) : ones (ones a + b) = ones (a + b) := by
  unfold ones
  by_cases h : a = 0
  · subst h; simp
  · rw [if_neg h, if_neg (by omega), if_neg (by omega)]
    omega
theorem ones_zero {n : Nat} : ones n = 0 ↔ n = 0 := by unfold ones; split <;> omega
def wordsN : List UInt8 → List Nat
  | [] => []
  | [a] => [256 * a.toNat]
  | a :: b :: s => (256 * a.toNat + b.toNat) :: wordsN s
theorem wordsN_len : ∀ (s : List UInt8), (wordsN s).length = (s.length + 1) / 2
  | [] => rfl
  | [a] => by simp [wordsN]
  | a :: b :: s => by simp only [wordsN, List.length_cons, wordsN_len s]; omega
theorem wordsN_sum : ∀ (s : List UInt8), (wordsN s).sum = sumAt 0 s
  | [] => rfl
  | [a] => by simp [wordsN, sumAt]; omega
  | a :: b :: s => by
    simp only [wordsN, sumAt, List.sum_cons, wordsN_sum s]
    rw [show (0 + 1 + 1 : Nat) = 0 + 2 by rfl, sumAt_two]
    simp
    omega
theorem wordsN_le : ∀ (s : List UInt8), ∀ w ∈ wordsN s, w ≤ 65535
  | [], w, h => by simp [wordsN] at h
  | [a], w, h => by
    have := a.toNat_lt
    simp [wordsN] at h; omega
  | a :: b :: s, w, h => by
    have := a.toNat_lt
    have := b.toNat_lt
    simp only [wordsN, List.mem_cons] at h
    rcases h with h | h
    · omega
    · exact wordsN_le s w h
theorem wordsN_take : ∀ (s : List UInt8) (i : Nat) (a b : UInt8), s[2 * i]? = some a → s[2 * i + 1]? = some b → wordsN (s.take (2 * (i + 1))) = wordsN (s.take (2 * i)) ++ [256 * a.toNat + b.toNat]
  | [], i, a, b, h, _ => by simp at h
  | [c], 0, a, b, h, h2 => by simp at h2
  | [c], i + 1, a, b, h, _ => by simp at h
  | c :: d :: s, 0, a, b, h, h2 => by
    simp at h h2
    subst h h2
    rfl
  | c :: d :: s, i + 1, a, b, h, h2 => by
    have h' : s[2 * i]? = some a := by rw [← h, show 2 * (i + 1) = 2 * i + 1 + 1 by omega]; simp
    have h2' : s[2 * i + 1]? = some b := by rw [← h2, show 2 * (i + 1) + 1 = 2 * i + 1 + 1 + 1 by omega]; simp
    have ih := wordsN_take s i a b h' h2'
    rw [show 2 * (i + 1 + 1) = 2 * (i + 1) + 1 + 1 by omega, show 2 * (i + 1) = 2 * i + 1 + 1 by omega]
    simp only [List.take_succ_cons, wordsN, List.cons_append]
    rw [← ih]
    rfl
theorem wordsN_odd : ∀ (s : List UInt8), s.length % 2 = 1 → wordsN (s ++ [0]) = wordsN s
  | [], h => by simp at h
  | [a], h => by simp [wordsN]
  | a :: b :: s, h => by
    simp only [List.cons_append, wordsN]
    rw [wordsN_odd s (by simp only [List.length_cons] at h; omega)]
abbrev intsLV (l : List Nat) : List LV := l.map fun (w : Nat) => LV.int .i64 (w : Int)
theorem wAppend_tag {e by' d t g n sz : Nat} {sl : Slots} {l new : List LV} (hs : sl t = .tag g n sz) (hn : n = l.length) (hz : sz = e) (hl : (l.all fun v => decide (flatLen v = e)) = true) (hnew : (new.all fun v => decide (flatLen v = e)) = true) (hne : new ≠ []) (hb : (l.length + new.length) * by' ≤ 1099511627776) :
    wAppend e by' d sl (.lst (some (t, g)) l) (.lst none new) = some (.lst (some (t, g)) (l ++ new), upd sl t (.tag g (n + new.length) sz)) := by
  simp only [wAppend, newEls, hnew, if_true, Option.bind_some, hne, if_false, hs]
  rw [if_pos ⟨trivial, hn, hz, hl, hb⟩]
theorem ints_flat (l : List Nat) : ((intsLV l).all fun v => decide (flatLen v = 1)) = true := by
  rw [List.all_eq_true]
  intro v hv
  obtain ⟨w, _, rfl⟩ := List.mem_map.1 hv
  simp [flatLen]
def beB (n x : Nat) : List UInt8 := (List.range n).map fun i => UInt8.ofNat (x / 256 ^ (n - 1 - i))
theorem beB_len (n x : Nat) : (beB n x).length = n := by simp [beB]
theorem beB_get {n x i : Nat} (h : i < n) : (beB n x)[i]? = some (UInt8.ofNat (x / 256 ^ (n - 1 - i))) := by simp [beB, h]
theorem u8_wrap (y : Nat) : IntKind.u8.wrap (y : Int) = ((y % 256 : Nat) : Int) := by
  simp [IntKind.wrap, IntKind.bits, IntKind.signed]
theorem set_mid {b : List UInt8} {n i : Nat} {c : UInt8} (hb : b.length = n) (hi : i < n) (hc : b[i]? = some c) :
    (b.take i ++ List.replicate (n - i) 0).set i c = b.take (i + 1) ++ List.replicate (n - (i + 1)) 0 := by
  have e : List.replicate (n - i) (0 : UInt8) = 0 :: List.replicate (n - (i + 1)) 0 := by
    rw [show n - i = (n - (i + 1)) + 1 by omega, List.replicate_succ]
  rw [e, List.take_add_one, hc]
  have hl : (b.take i).length = i := by rw [List.length_take]; omega
  rw [List.set_append]
  rw [if_neg (by omega), hl]
  simp
def sumS (s : List UInt8) : Int := 65535 - (ones (sumAt 0 s) : Nat)
theorem sumS_le (s : List UInt8) : 0 ≤ sumS s ∧ sumS s ≤ 65535 := by
  have := ones_le (sumAt 0 s)
  unfold sumS
  omega
theorem ue_ag3 {c : Int} : LV.isAgg (faultLV c) = false := by unfold faultLV; exact Eq.trans rfl rfl
def fE (c : Int) : LV := if c = 0 then .nili else faultLV c
theorem fe_ag {c : Int} : LV.isAgg (fE c) = false := by unfold fE faultLV; split <;> exact Eq.trans rfl rfl
theorem fe_st {c : Int} : stor (fE c) = true := by unfold fE faultLV; split <;> exact Eq.trans rfl rfl
theorem fe_pl {c : Int} : plainRes (fE c) = true := by unfold fE faultLV; split <;> exact Eq.trans rfl rfl
theorem fe_fl {c : Int} : flatLen (fE c) = 1 := by unfold fE faultLV; split <;> simp only [flatLen]
theorem fe_ps {c : Int} : psl (fE c) = some (fE c) := by unfold fE faultLV; split <;> simp only [psl]
theorem fe_sv {c : Int} {sl : Slots} : sealV sl (fE c) = some (fE c) := by unfold fE faultLV; split <;> simp only [sealV, psl]
theorem fe_ov {c : Int} {sl : Slots} : outV none sl (fE c) = some (fE c) := by unfold fE faultLV; split <;> simp only [outV, sealV, psl]
attribute [go_sem ↓] fe_ag fe_st fe_pl fe_fl fe_ps fe_sv fe_ov
theorem toBytes_byteLV : ∀ l : List UInt8, toBytes (l.map byteLV) = some l
  | [] => by simp only [List.map_nil, toBytes]
  | a :: l => by
    show toBytes (.int .u8 (a.toNat : Int) :: l.map byteLV) = _
    rw [c_tb1, toBytes_byteLV l]
    simp [ob]
theorem lt1 {x : Int} (h : 0 ≤ x) (h1 : x < 256) : 0 ≤ x ∧ x < ((256 ^ 1 : Nat) : Int) := ⟨h, h1⟩
theorem lt2 {x : Int} (h : 0 ≤ x) (h1 : x < 65536) : 0 ≤ x ∧ x < ((256 ^ 2 : Nat) : Int) := ⟨h, h1⟩
theorem get_def {s : List UInt8} {i : Nat} (h : i < s.length) : s[i]? = some (s.getD i 0) := by
  rw [List.getD_eq_getElem?_getD, List.getElem?_eq_getElem h]; rfl
abbrev w16 (a b : UInt8) : Nat := 256 * a.toNat + b.toNat
theorem w16_or (a b : UInt8) : bitsOf .or .i64 (((a.toNat * 256 : Nat)) : Int) (b.toNat : Int) = ((w16 a b : Nat) : Int) := by
  have ha := a.toNat_lt
  have hb := b.toNat_lt
  rw [bits_or_nat (by simp [IntKind.max, IntKind.signed, IntKind.bits]; omega) (by simp [IntKind.max, IntKind.signed, IntKind.bits]; omega)]
  congr 1
  show _ = 256 * a.toNat + b.toNat
  rw [show a.toNat * 256 = a.toNat <<< 8 by rw [Nat.shiftLeft_eq], ← Nat.shiftLeft_add_eq_or_of_lt hb, Nat.shiftLeft_eq]
  simp only [Nat.reducePow]
  omega
def wAt (s : List UInt8) (i : Nat) : Nat := w16 (s.getD i 0) (s.getD (i + 1) 0)
theorem wAt_le (s : List UInt8) (i : Nat) : wAt s i ≤ 65535 := by
  have := (s.getD i 0).toNat_lt; have := (s.getD (i + 1) 0).toNat_lt
  unfold wAt w16; omega
def bAt (s : List UInt8) (i : Nat) : Nat := (s.getD i 0).toNat
theorem bAt_le (s : List UInt8) (i : Nat) : bAt s i ≤ 255 := by have := (s.getD i 0).toNat_lt; unfold bAt; omega
theorem e_cBslM {R : Type} {m d : Nat} {ps : List (Nat × LV)} {sl : Slots} {K2 : LV × Slots → Option R} : ob (cBslM m ps d sl) K2 = ob (putParts (.bytes (List.replicate m 0)) ps) fun v => ob (asBytes v) fun b => ob (cBytes b d sl) K2 := by
  unfold cBslM
  cases putParts (.bytes (List.replicate m 0)) ps with
  | none => rfl
  | some v => cases v <;> rfl
theorem cBytes_eq {R : Type} {b : List UInt8} {d : Nat} {K2 : LV × Slots → Option R} (h : b.length ≤ 1099511627776) : ob (cBytes b d noSlots) K2 = K2 (.arr d 1 [] 0 0 b.length, upd noSlots d (.obj 1 (.bytes b))) := by
  simp only [cBytes, mkObj, no_at]
  rfl
theorem wApp_arr {d t g : Nat} {sl : Slots} {b s : List UInt8} (hb : b.length + s.length ≤ 1099511627776) :
    wAppend 1 1 d (upd sl t (.obj g (.bytes b))) (.arr t g [] 0 0 b.length) (.lst none (s.map byteLV)) = some (.arr t (g + 1) [] 0 0 (b.length + s.length), upd (upd sl t (.obj g (.bytes b))) t (.obj (g + 1) (.bytes (b ++ s)))) := by
  have h1 : ((s.map byteLV).all fun v => decide (flatLen v = 1)) = true := by
    rw [List.all_eq_true]; intro v hv; obtain ⟨w, _, rfl⟩ := List.mem_map.1 hv; simp [byteLV, flatLen]
  have h2 : ((s.map byteLV).all okByte) = true := by
    rw [List.all_eq_true]; intro v hv; obtain ⟨w, _, rfl⟩ := List.mem_map.1 hv
    have := w.toNat_lt
    simp [byteLV, okByte]; omega
  simp only [wAppend, newEls, h1, if_true, Option.bind_some, upd_same]
  rw [if_pos ⟨trivial, trivial, trivial, trivial, by simpa using hb, h2⟩, toBytes_byteLV]
  rfl
theorem wApp_str {d t g : Nat} {sl : Slots} {b s : List UInt8} (hb : b.length + s.length ≤ 1099511627776) :
    wAppend 1 1 d (upd sl t (.obj g (.bytes b))) (.arr t g [] 0 0 b.length) (.str s) = some (.arr t (g + 1) [] 0 0 (b.length + s.length), upd (upd sl t (.obj g (.bytes b))) t (.obj (g + 1) (.bytes (b ++ s)))) := by
  have h2 : ((s.map byteLV).all okByte) = true := by
    rw [List.all_eq_true]; intro v hv; obtain ⟨w, _, rfl⟩ := List.mem_map.1 hv
    have := w.toNat_lt
    simp [byteLV, okByte]; omega
  simp only [wAppend, newEls, if_true, Option.bind_some, upd_same]
  rw [if_pos ⟨trivial, trivial, trivial, trivial, by simpa using hb, h2⟩, toBytes_byteLV]
  rfl
theorem u8w (x : Nat) : IntKind.u8.wrap (x : Int) = ((UInt8.ofNat x).toNat : Int) := by rw [u8_wrap, UInt8.toNat_ofNat']
theorem u8_ofNat_mod (x : Nat) : UInt8.ofNat (x % 256) = UInt8.ofNat x := by apply UInt8.toNat_inj.1; simp
theorem u8_lt (c : UInt8) : (c.toNat : Int) < 256 := by have := c.toNat_lt; omega
theorem beB1 (x : Nat) : beB 1 x = [UInt8.ofNat x] := by simp [beB, List.range_succ]
theorem beB2 (x : Nat) : beB 2 x = [UInt8.ofNat (x / 256), UInt8.ofNat x] := by simp [beB, List.range_succ]
theorem div256 {x : Nat} (h : x ≤ 1000000) : IntKind.i64.wrap (Int.tdiv (x : Int) 256) = ((x / 256 : Nat) : Int) := by
  rw [show Int.tdiv (x : Int) 256 = ((x / 256 : Nat) : Int) from rfl, wrap_id (by omega) (by omega)]
theorem mod256 (x : Nat) : Int.tmod (x : Int) 256 = ((x % 256 : Nat) : Int) := rfl
theorem sum_zeros {h r : List UInt8} (hh : h.length % 2 = 0) : sumAt 0 (h ++ (0 :: 0 :: r)) = sumAt 0 (h ++ r) := by
  simp only [sumAt_append, sumAt, UInt8.toNat_zero]
  rw [show 0 + h.length + 1 + 1 = 0 + h.length + 2 by omega, sumAt_two]
  split <;> split <;> omega
theorem w16_beB {x : Nat} (h : x < 65536) : w16 (UInt8.ofNat (x / 256)) (UInt8.ofNat x) = x := by
  simp only [w16, UInt8.toNat_ofNat']; omega
theorem flip_tab : ∀ c : Fin 256, ∀ j : Fin 8, c.val ^^^ 2 ^ j.val = c.val + 2 ^ j.val ∨ (c.val ^^^ 2 ^ j.val) + 2 ^ j.val = c.val := by
  decide +kernel
theorem flip_nat {c j : Nat} (hc : c < 256) (hj : j < 8) : c ^^^ 2 ^ j = c + 2 ^ j ∨ (c ^^^ 2 ^ j) + 2 ^ j = c := flip_tab ⟨c, hc⟩ ⟨j, hj⟩
theorem ones_full {n : Nat} : ones n = 65535 ↔ 0 < n ∧ n % 65535 = 0 := by unfold ones; split <;> omega
theorem right_of {t x : Nat} (hx : x = if 65535 - ones t = 0 then 65535 else 65535 - ones t) : ones (t + x) = 65535 := by
  have h1 := ones_le t
  rw [← ones_add, ones_full]
  split at hx <;> omega
theorem right_of0 {t : Nat} : ones (t + (65535 - ones t)) = 65535 ∨ t = 0 ∧ False := by
  left
  have h1 := ones_le t
  rw [← ones_add, ones_full]
  omega
theorem sumAt_set : ∀ (s : List UInt8) (p k : Nat) (c d : UInt8), s[k]? = some c → sumAt p (s.set k d) + (if (p + k) % 2 = 0 then c.toNat * 256 else c.toNat) = sumAt p s + (if (p + k) % 2 = 0 then d.toNat * 256 else d.toNat)
  | [], p, k, c, d, h => by simp at h
  | a :: s, p, 0, c, d, h => by
    simp at h; subst h
    simp only [List.set_cons_zero, sumAt, Nat.add_zero]
    omega
  | a :: s, p, k + 1, c, d, h => by
    have := sumAt_set s (p + 1) k c d (by simpa using h)
    simp only [List.set_cons_succ, sumAt]
    rw [show p + 1 + k = p + (k + 1) by omega] at this
    omega
theorem pow_not {j m : Nat} (hj : j < 8) (hm : m = 2 ^ j * 256 ∨ m = 2 ^ j) : 0 < m ∧ m < 65535 := by
  have h1 : 0 < 2 ^ j := Nat.two_pow_pos j
  have h2 : 2 ^ j ≤ 2 ^ 7 := Nat.pow_le_pow_right (by decide) (by omega)
  have h3 : (2 : Nat) ^ 7 = 128 := by decide
  omega
theorem flip_told {s : List UInt8} {p k j : Nat} {c d : UInt8} (hk : s[k]? = some c) (hj : j < 8) (hd : d.toNat = c.toNat ^^^ 2 ^ j) (ho : ones (sumAt p s) = 65535) : ones (sumAt p (s.set k d)) ≠ 65535 := by
  have h1 := sumAt_set s p k c d hk
  have h2 := flip_nat c.toNat_lt hj
  rw [← hd] at h2
  have ho := ones_full.1 ho
  intro h
  have h := ones_full.1 h
  have h3 : 0 < 2 ^ j := Nat.two_pow_pos j
  have h4 : 2 ^ j ≤ 2 ^ 7 := Nat.pow_le_pow_right (by decide) (by omega)
  have h5 : (2 : Nat) ^ 7 = 128 := by decide
  generalize 2 ^ j = m at *
  split at h1 <;> omega
theorem sumS_zero {s : List UInt8} : sumS s = 0 ↔ ones (sumAt 0 s) = 65535 := by unfold sumS; omega
theorem bAt0 {c : UInt8} {l : List UInt8} : bAt (c :: l) 0 = c.toNat := Eq.trans rfl rfl
theorem bAts {c : UInt8} {l : List UInt8} {i : Nat} : bAt (c :: l) (i + 1) = bAt l i := by simp [bAt]
theorem wAt0 {c d : UInt8} {l : List UInt8} : wAt (c :: d :: l) 0 = w16 c d := Eq.trans rfl rfl
theorem wAts {c : UInt8} {l : List UInt8} {i : Nat} : wAt (c :: l) (i + 1) = wAt l i := by simp [wAt]
theorem w16_hi (a b : UInt8) : UInt8.ofNat (w16 a b / 256) = a := by
  apply UInt8.toNat_inj.1
  have := a.toNat_lt; have := b.toNat_lt
  simp only [UInt8.toNat_ofNat', w16]; omega
theorem w16_lo (a b : UInt8) : UInt8.ofNat (w16 a b) = b := by
  apply UInt8.toNat_inj.1
  have := a.toNat_lt; have := b.toNat_lt
  simp only [UInt8.toNat_ofNat', w16]; omega
theorem len_cons {k : Nat} {s : List UInt8} (h : k + 1 ≤ s.length) : ∃ a t, s = a :: t ∧ k ≤ t.length := by
  cases s with
  | nil => simp at h
  | cons a t => exact ⟨a, t, rfl, by simpa using h⟩
theorem nat_of {x : Int} (h : 0 ≤ x) : ∃ y : Nat, x = (y : Int) := Int.eq_ofNat_of_zero_le h
end Go.Ev

namespace Go.Ev
set_option linter.unusedSimpArgs false
set_option linter.unusedVariables false
set_option maxRecDepth 4000
set_option maxHeartbeats 2000000
section
variable {S : Sys} (hS : Has S) (n : Nat)
include hS
theorem ev_fold (m : Nat) (hm : m ≤ 9223372036854775807) : S.ev (n + 1) id_sum_fold [.int .i64 (m : Int)] none = some (.int .i64 (ones m : Nat), none) := by
  rw [Sys.step hS.h_sum_fold, F_sum_fold_eq]
  unfold F_sum_fold
  (try simp only [guard_merge, or_merge, and_merge, or_pick, and_pick, guard_or, guard_and]); simp only [to_ob]
  refine while_rule (fun k q => ∃ x : Nat, q = ([.int .i64 (x : Int)], noSlots) ∧ k = x ∧ ones x = ones m ∧ x ≤ 9223372036854775807) m ⟨m, rfl, rfl, rfl, hm⟩ ?_
  rintro k q ⟨x, rfl, rfl, hx, hb⟩
  simp only [go_sem, ↓reduceIte, reduceCtorEq, upd_ne, back_new (no_at), Nat.reduceAdd, Nat.reduceEqDiff, Nat.reduceMul, Nat.reduceSub, Nat.reduceLeDiff, Nat.reduceLT, Int.reduceToNat, Int.reduceLE, Int.reduceLT, Int.reduceEq, UInt8.reduceOfNat]
  refine nxt_ite (fun h => ?_) (fun h => ?_)
  · have e1 : bitsOf .and .i64 (k : Int) 65535 = ((k % 65536 : Nat) : Int) := by
      rw [show (65535 : Int) = ((2 ^ 16 - 1 : Nat) : Int) from rfl, bits_mask 16 (by omega) (by simp [IntKind.max, IntKind.signed, IntKind.bits]; omega) (by decide)]
      rfl
    have e2 : Int.fdiv (k : Int) (2 ^ min 16 64) = ((k / 65536 : Nat) : Int) := by
      rw [show min 16 64 = 16 from rfl, Int.fdiv_eq_ediv_of_nonneg _ (by decide)]
      rfl
    have e3 : IntKind.i64.wrap (((k / 65536 : Nat) : Int) + ((k % 65536 : Nat) : Int)) = ((k / 65536 + k % 65536 : Nat) : Int) := by
      rw [wrap_id (by omega) (by omega)]; omega
    have hk : 65535 < k := by omega
    simp only [go_sem, ↓reduceIte, reduceCtorEq, upd_ne, back_new (no_at), Nat.reduceAdd, Nat.reduceEqDiff, Nat.reduceMul, Nat.reduceSub, Nat.reduceLeDiff, Nat.reduceLT, Int.reduceToNat, Int.reduceLE, Int.reduceLT, Int.reduceEq, UInt8.reduceOfNat, e1, e2, e3]
    exact ⟨_, by omega, _, rfl, rfl, by rw [ones_step hk, hx], by omega⟩
  · have hk : k ≤ 65535 := by omega
    simp only [go_sem, ↓reduceIte, reduceCtorEq, upd_ne, back_new (no_at), Nat.reduceAdd, Nat.reduceEqDiff, Nat.reduceMul, Nat.reduceSub, Nat.reduceLeDiff, Nat.reduceLT, Int.reduceToNat, Int.reduceLE, Int.reduceLT, Int.reduceEq, UInt8.reduceOfNat, Nxt, exIf]
    rw [← hx, ones_small hk]
theorem ev_add (m p : Nat) (s : List UInt8) (hb : m + 65280 * s.length ≤ 9223372036854775807) (hp : p + s.length ≤ 9223372036854775806) :
    S.ev (n + 1) id_sum_add [.int .i64 (m : Int), .int .i64 (p : Int), .str s, .int .u8 0] none = some (.int .i64 (m + sumAt p s : Nat), none) := by
  rw [Sys.step hS.h_sum_add, F_sum_add_eq]
  unfold F_sum_add
  (try simp only [guard_merge, or_merge, and_merge, or_pick, and_pick, guard_or, guard_and]); simp only [to_ob]
  simp only [go_sem, ↓reduceIte, reduceCtorEq, upd_ne, back_new (no_at), Nat.reduceAdd, Nat.reduceEqDiff, Nat.reduceMul, Nat.reduceSub, Nat.reduceLeDiff, Nat.reduceLT, Int.reduceToNat, Int.reduceLE, Int.reduceLT, Int.reduceEq, UInt8.reduceOfNat]
  refine while_rule (fun k q => ∃ x i : Nat, q = ([.int .i64 (x : Int), .int .i64 (i : Int)], noSlots) ∧ i + k = s.length ∧ x + sumAt (p + i) (s.drop i) = m + sumAt p s) s.length ⟨m, 0, rfl, by simp, by simp⟩ ?_
  rintro k q ⟨x, i, rfl, hi, hx⟩
  have hle := sumAt_le s p
  simp only [go_sem, ↓reduceIte, reduceCtorEq, upd_ne, back_new (no_at), Nat.reduceAdd, Nat.reduceEqDiff, Nat.reduceMul, Nat.reduceSub, Nat.reduceLeDiff, Nat.reduceLT, Int.reduceToNat, Int.reduceLE, Int.reduceLT, Int.reduceEq, UInt8.reduceOfNat]
  refine nxt_ite (fun h => ?_) (fun h => ?_)
  · have hlt : i < s.length := by omega
    obtain ⟨c, hc⟩ : ∃ c, s[i]? = some c := ⟨s[i], by simp [hlt]⟩
    have hd : s.drop i = c :: s.drop (i + 1) := by
      rw [List.drop_eq_getElem_cons hlt]; congr 1; simpa [hlt] using hc
    have hcl := c.toNat_lt
    rw [hd] at hx
    simp only [sumAt] at hx
    have e0 : bitsOf .xor .u8 (c.toNat : Int) 0 = (c.toNat : Int) := by
      rw [show (0 : Int) = ((0 : Nat) : Int) from rfl, bits_xor_nat (by simp [IntKind.max, IntKind.signed, IntKind.bits]; omega) (by simp [IntKind.max, IntKind.signed, IntKind.bits])]
      simp
    have e1 : IntKind.i64.wrap (c.toNat : Int) = (c.toNat : Int) := wrap_id (by omega) (by omega)
    have e2 : IntKind.i64.wrap ((p : Int) + (i : Int)) = ((p + i : Nat) : Int) := by rw [wrap_id (by omega) (by omega)]; omega
    have e3 : Int.tmod ((p + i : Nat) : Int) 2 = (((p + i) % 2 : Nat) : Int) := by
      rw [Int.tmod_eq_emod_of_nonneg (by omega)]; omega
    have e4 : IntKind.i64.wrap ((c.toNat : Int) * 2 ^ min 8 64) = ((c.toNat * 256 : Nat) : Int) := by
      rw [show min 8 64 = 8 from rfl, wrap_id (by omega) (by omega)]; omega
    have e6 : IntKind.i64.wrap ((i : Int) + 1) = ((i + 1 : Nat) : Int) := by rw [wrap_id (by omega) (by omega)]; omega
    simp only [go_sem, ↓reduceIte, reduceCtorEq, upd_ne, back_new (no_at), Nat.reduceAdd, Nat.reduceEqDiff, Nat.reduceMul, Nat.reduceSub, Nat.reduceLeDiff, Nat.reduceLT, Int.reduceToNat, Int.reduceLE, Int.reduceLT, Int.reduceEq, UInt8.reduceOfNat, List.getElem?_map, Int.toNat_natCast, hc, e0, e1, e2, e3, e4, e6]
    by_cases hpar : (p + i) % 2 = 0
    · rw [if_pos hpar] at hx
      have e5 : IntKind.i64.wrap ((x : Int) + ((c.toNat * 256 : Nat) : Int)) = ((x + c.toNat * 256 : Nat) : Int) := by
        rw [wrap_id (by omega) (by omega)]; omega
      have hq : (((p + i) % 2 : Nat) : Int) = 0 := by omega
      simp only [go_sem, ↓reduceIte, reduceCtorEq, upd_ne, back_new (no_at), Nat.reduceAdd, Nat.reduceEqDiff, Nat.reduceMul, Nat.reduceSub, Nat.reduceLeDiff, Nat.reduceLT, Int.reduceToNat, Int.reduceLE, Int.reduceLT, Int.reduceEq, UInt8.reduceOfNat, hq, e5]
      exact ⟨k - 1, by omega, _, i + 1, rfl, by omega, by rw [show p + (i + 1) = p + i + 1 by omega]; omega⟩
    · rw [if_neg hpar] at hx
      have e5 : IntKind.i64.wrap ((x : Int) + (c.toNat : Int)) = ((x + c.toNat : Nat) : Int) := by
        rw [wrap_id (by omega) (by omega)]; omega
      have hq : ¬ (((p + i) % 2 : Nat) : Int) = 0 := by omega
      simp only [go_sem, ↓reduceIte, reduceCtorEq, upd_ne, back_new (no_at), Nat.reduceAdd, Nat.reduceEqDiff, Nat.reduceMul, Nat.reduceSub, Nat.reduceLeDiff, Nat.reduceLT, Int.reduceToNat, Int.reduceLE, Int.reduceLT, Int.reduceEq, UInt8.reduceOfNat, hq, e5]
      exact ⟨k - 1, by omega, _, i + 1, rfl, by omega, by rw [show p + (i + 1) = p + i + 1 by omega]; omega⟩
  · rw [List.drop_eq_nil_of_le (by omega)] at hx
    simp only [sumAt, Nat.add_zero] at hx
    simp only [go_sem, ↓reduceIte, reduceCtorEq, upd_ne, back_new (no_at), Nat.reduceAdd, Nat.reduceEqDiff, Nat.reduceMul, Nat.reduceSub, Nat.reduceLeDiff, Nat.reduceLT, Int.reduceToNat, Int.reduceLE, Int.reduceLT, Int.reduceEq, UInt8.reduceOfNat, Nxt, exIf, hx]
theorem ev_Of (ps : List (List UInt8)) (hl : ps.length ≤ 1000) (ht : ps.flatten.length ≤ 140737488351232) : S.ev (n + 2) id_sum_Of [.lst none (ps.map .str)] none = some (.int .i64 (65535 - (ones (sumAt 0 ps.flatten) : Nat)), none) := by
  rw [Sys.step hS.h_sum_Of, F_sum_Of_eq]
  unfold F_sum_Of
  (try simp only [guard_merge, or_merge, and_merge, or_pick, and_pick, guard_or, guard_and]); simp only [to_ob]
  simp only [go_sem, ↓reduceIte, reduceCtorEq, upd_ne, back_new (no_at), Nat.reduceAdd, Nat.reduceEqDiff, Nat.reduceMul, Nat.reduceSub, Nat.reduceLeDiff, Nat.reduceLT, Int.reduceToNat, Int.reduceLE, Int.reduceLT, Int.reduceEq, UInt8.reduceOfNat, List.length_map]
  refine while_rule (fun k q => ∃ i : Nat, q = ([.int .i64 (ones (sumAt 0 (ps.take i).flatten) : Nat), .int .i64 ((ps.take i).flatten.length : Nat), .int .i64 (i : Int)], noSlots) ∧ i + k = ps.length) ps.length ⟨0, by simp [ones, sumAt], by simp⟩ ?_
  rintro k q ⟨i, rfl, hi⟩
  simp only [go_sem, ↓reduceIte, reduceCtorEq, upd_ne, back_new (no_at), Nat.reduceAdd, Nat.reduceEqDiff, Nat.reduceMul, Nat.reduceSub, Nat.reduceLeDiff, Nat.reduceLT, Int.reduceToNat, Int.reduceLE, Int.reduceLT, Int.reduceEq, UInt8.reduceOfNat]
  refine nxt_ite (fun h => ?_) (fun h => ?_)
  · have hlt : i < ps.length := by omega
    obtain ⟨s, hs⟩ : ∃ s, ps[i]? = some s := ⟨ps[i], by simp [hlt]⟩
    have htk : ps.take (i + 1) = ps.take i ++ [s] := by
      rw [List.take_add_one, hs]; rfl
    have hfl : (ps.take (i + 1)).flatten = (ps.take i).flatten ++ s := by rw [htk]; simp
    have hle : ((ps.take i).flatten ++ s).length ≤ 140737488351232 := by
      rw [← hfl]
      refine Nat.le_trans ?_ ht
      conv => rhs; rw [← List.take_append_drop (i + 1) ps, List.flatten_append]
      simp
    rw [List.length_append] at hle
    generalize (ps.take i).flatten = u at *
    have ho := ones_le (sumAt 0 u)
    have hsl := sumAt_le s u.length
    have h1 := ev_add hS n (ones (sumAt 0 u)) u.length s (by omega) (by omega)
    have h2 := ev_fold hS n (ones (sumAt 0 u) + sumAt u.length s) (by omega)
    have e1 : IntKind.i64.wrap ((u.length : Int) + (s.length : Int)) = ((u ++ s).length : Nat) := by
      rw [wrap_id (by omega) (by omega), List.length_append]; omega
    have e2 : IntKind.i64.wrap ((i : Int) + 1) = ((i + 1 : Nat) : Int) := by rw [wrap_id (by omega) (by omega)]; omega
    rw [ones_add, show sumAt 0 u + sumAt u.length s = sumAt 0 (u ++ s) by rw [sumAt_append]; simp] at h2
    simp only [go_sem, ↓reduceIte, reduceCtorEq, upd_ne, back_new (no_at), Nat.reduceAdd, Nat.reduceEqDiff, Nat.reduceMul, Nat.reduceSub, Nat.reduceLeDiff, Nat.reduceLT, Int.reduceToNat, Int.reduceLE, Int.reduceLT, Int.reduceEq, UInt8.reduceOfNat, List.getElem?_map, Int.toNat_natCast, hs, h1, h2, e1, e2]
    exact ⟨k - 1, by omega, i + 1, by rw [hfl], by omega⟩
  · rw [List.take_of_length_le (by omega)]
    have ho := ones_le (sumAt 0 ps.flatten)
    have e1 : IntKind.i64.wrap (65535 - ((ones (sumAt 0 ps.flatten) : Nat) : Int)) = 65535 - ((ones (sumAt 0 ps.flatten) : Nat) : Int) := wrap_id (by omega) (by omega)
    simp only [go_sem, ↓reduceIte, reduceCtorEq, upd_ne, back_new (no_at), Nat.reduceAdd, Nat.reduceEqDiff, Nat.reduceMul, Nat.reduceSub, Nat.reduceLeDiff, Nat.reduceLT, Int.reduceToNat, Int.reduceLE, Int.reduceLT, Int.reduceEq, UInt8.reduceOfNat, Nxt, exIf, e1]
end
end Go.Ev

namespace Go.Ev
set_option linter.unusedSimpArgs false
set_option linter.unusedVariables false
set_option maxRecDepth 4000
set_option maxHeartbeats 2000000
def bigR (x : Int) (m : Nat) : LV := if 0 ≤ x ∧ x < ((256 ^ m : Nat) : Int) then .tup [.str (beB m x.toNat), .nili] else .tup [.str [], faultLV 13]
section
variable {S : Sys} (hS : Has S) (n : Nat)
include hS
theorem ev_Big (x : Int) (m : Nat) (hm : m = 1 ∨ m = 2 ∨ m = 4) (hx : I64 x) : S.ev (n + 1) id_num_Big [.int .i64 x, .int .i64 (m : Int)] none = some (bigR x m, none) := by
  rw [Sys.step hS.h_num_Big, F_num_Big_eq]
  unfold F_num_Big
  (try simp only [guard_merge, or_merge, and_merge, or_pick, and_pick, guard_or, guard_and]); simp only [to_ob]
  have f1 : ¬ ((¬ (m : Int) = 1 ∧ ¬ (m : Int) = 2) ∧ ¬ (m : Int) = 4) := by omega
  have e1 : IntKind.i64.wrap (8 * (m : Int)) = ((8 * m : Nat) : Int) := by rw [wrap_id (by omega) (by omega)]; omega
  have e2 : IntKind.i64.wrap (1 * 2 ^ min (8 * m) 64) = ((256 ^ m : Nat) : Int) := by
    rcases hm with rfl | rfl | rfl <;> rfl
  have f2 : ¬ ((8 * m : Nat) : Int) < 0 := by omega
  unfold bigR
  by_cases c : 0 ≤ x ∧ x < ((256 ^ m : Nat) : Int)
  · have c' : ¬ (x < 0 ∨ ((256 ^ m : Nat) : Int) ≤ x) := by omega
    rw [if_pos c]
    obtain ⟨y, rfl⟩ := Int.eq_ofNat_of_zero_le c.1
    have hm4 : m ≤ 4 := by omega
    have hy : (y : Int) ≤ 9223372036854775807 := hx.2
    have f3 : (m : Int) ≤ 1099511627776 := by omega
    have f4 : (0 : Int) ≤ (m : Int) := by omega
    simp only [go_sem, ↓reduceIte, reduceCtorEq, upd_ne, back_new (no_at), Nat.reduceAdd, Nat.reduceEqDiff, Nat.reduceMul, Nat.reduceSub, Nat.reduceLeDiff, Nat.reduceLT, Int.reduceToNat, Int.reduceLE, Int.reduceLT, Int.reduceEq, UInt8.reduceOfNat, f1, e1, e2, f2, c', f3, f4, Int.le_refl, List.length_replicate]
    refine while_rule (fun k q => ∃ i : Nat, q = ([.int .i64 (i : Int)], upd noSlots 36 (.obj 1 (.bytes ((beB m y).take i ++ List.replicate (m - i) 0)))) ∧ i + k = m) m ⟨0, by simp, by simp⟩ ?_
    rintro k q ⟨i, rfl, hi⟩
    simp only [go_sem, ↓reduceIte, reduceCtorEq, upd_ne, back_new (no_at), Nat.reduceAdd, Nat.reduceEqDiff, Nat.reduceMul, Nat.reduceSub, Nat.reduceLeDiff, Nat.reduceLT, Int.reduceToNat, Int.reduceLE, Int.reduceLT, Int.reduceEq, UInt8.reduceOfNat]
    refine nxt_ite (fun h => ?_) (fun h => ?_)
    · have hlt : i < m := by omega
      have g1 : IntKind.i64.wrap ((m : Int) - 1) = ((m - 1 : Nat) : Int) := by rw [wrap_id (by omega) (by omega)]; omega
      have g2 : IntKind.i64.wrap (((m - 1 : Nat) : Int) - (i : Int)) = ((m - 1 - i : Nat) : Int) := by rw [wrap_id (by omega) (by omega)]; omega
      have g3 : IntKind.i64.wrap (8 * ((m - 1 - i : Nat) : Int)) = ((8 * (m - 1 - i) : Nat) : Int) := by rw [wrap_id (by omega) (by omega)]; omega
      have g4 : ¬ ((8 * (m - 1 - i) : Nat) : Int) < 0 := by omega
      have g5 : Int.fdiv (y : Int) (2 ^ min (8 * (m - 1 - i)) 64) = ((y / 256 ^ (m - 1 - i) : Nat) : Int) := by
        have p1 : ((2 : Int) ^ (8 * (m - 1 - i))) = ((256 ^ (m - 1 - i) : Nat) : Int) := by
          rw [show (256 : Nat) = 2 ^ 8 from rfl, ← Nat.pow_mul]; simp
        rw [Nat.min_eq_left (by omega), p1, Int.fdiv_eq_ediv_of_nonneg _ (Int.natCast_nonneg _)]
        rfl
      have hl : ((beB m y).take i ++ List.replicate (m - i) 0).length = m := by rw [List.length_append, List.length_take, beB_len, List.length_replicate]; omega
      obtain ⟨c0, hc0⟩ : ∃ c0, ((beB m y).take i ++ List.replicate (m - i) 0)[i]? = some c0 := ⟨_, List.getElem?_eq_getElem (by omega)⟩
      have g6 : ((y / 256 ^ (m - 1 - i) % 256 : Nat) : Int) < 256 := by omega
      have g7 : (UInt8.ofNat (y / 256 ^ (m - 1 - i) % 256)) = UInt8.ofNat (y / 256 ^ (m - 1 - i)) := by
        apply UInt8.toNat_inj.1; simp
      have g8 := set_mid (beB_len m y) hlt (beB_get hlt)
      have g9 : IntKind.i64.wrap ((i : Int) + 1) = ((i + 1 : Nat) : Int) := by rw [wrap_id (by omega) (by omega)]; omega
      simp only [go_sem, ↓reduceIte, reduceCtorEq, upd_ne, back_new (no_at), Nat.reduceAdd, Nat.reduceEqDiff, Nat.reduceMul, Nat.reduceSub, Nat.reduceLeDiff, Nat.reduceLT, Int.reduceToNat, Int.reduceLE, Int.reduceLT, Int.reduceEq, UInt8.reduceOfNat, List.getElem?_map, Int.toNat_natCast, g1, g2, g3, g4, g5, u8_wrap, hl, hc0, hlt, byteLV, g6, g7, g8, g9]
      exact ⟨k - 1, by omega, i + 1, rfl, by omega⟩
    · rw [List.take_of_length_le (by rw [beB_len]; omega), show m - i = 0 by omega]
      have hb := beB_len m y
      have hb2 : m ≤ (beB m y).length := by omega
      have htk : (beB m y).take m = beB m y := List.take_of_length_le (by omega)
      simp only [go_sem, ↓reduceIte, reduceCtorEq, upd_ne, back_new (no_at), Nat.reduceAdd, Nat.reduceEqDiff, Nat.reduceMul, Nat.reduceSub, Nat.reduceLeDiff, Nat.reduceLT, Int.reduceToNat, Int.reduceLE, Int.reduceLT, Int.reduceEq, UInt8.reduceOfNat, Nxt, exIf, hb, htk, Nat.le_refl, Int.toNat_natCast]
  · have c' : x < 0 ∨ ((256 ^ m : Nat) : Int) ≤ x := by omega
    rw [if_neg c]
    simp only [go_sem, ↓reduceIte, reduceCtorEq, upd_ne, back_new (no_at), Nat.reduceAdd, Nat.reduceEqDiff, Nat.reduceMul, Nat.reduceSub, Nat.reduceLeDiff, Nat.reduceLT, Int.reduceToNat, Int.reduceLE, Int.reduceLT, Int.reduceEq, UInt8.reduceOfNat, f1, e1, e2, f2, c']
end
end Go.Ev

namespace Go.Ev
set_option linter.unusedSimpArgs false
set_option linter.unusedVariables false
set_option maxRecDepth 4000
set_option maxHeartbeats 2000000
abbrev okB (n : Int) : Prop := 0 ≤ n ∧ n ≤ 255
def why4 (tos id ttl pt at' : Int) (mo : Bool) (op da : List UInt8) : Int :=
  if okB tos ∧ okB ttl ∧ okB pt ∧ (0 ≤ id ∧ id ≤ 65535) ∧ (0 ≤ at' ∧ at' ≤ 65528) ∧ Int.tmod at' 8 = 0 then
    (if op.length ≤ 40 ∧ op.length % 4 = 0 ∧ (mo = true → da.length ≠ 0 ∧ da.length % 8 = 0) then
      (if 20 + (op.length : Int) + at' + da.length ≤ 65535 then 0 else 3) else 8) else 13
section
variable {S : Sys} (hS : Has S) (n : Nat)
include hS
theorem ev_byteful (l : List Int) (hl : l.length ≤ 1000) : S.ev (n + 1) id_ip4_byteful [.lst none (l.map (LV.int .i64))] none = some (.bool (decide (∀ x ∈ l, okB x)), none) := by
  rw [Sys.step hS.h_ip4_byteful, F_ip4_byteful_eq]
  unfold F_ip4_byteful
  (try simp only [guard_merge, or_merge, and_merge, or_pick, and_pick, guard_or, guard_and]); simp only [to_ob]
  simp only [go_sem, ↓reduceIte, reduceCtorEq, upd_ne, back_new (no_at), Nat.reduceAdd, Nat.reduceEqDiff, Nat.reduceMul, Nat.reduceSub, Nat.reduceLeDiff, Nat.reduceLT, Int.reduceToNat, Int.reduceLE, Int.reduceLT, Int.reduceEq, UInt8.reduceOfNat, List.length_map]
  refine while_rule (fun k q => ∃ i : Nat, q = ([.bool false, .int .i64 (i : Int)], noSlots) ∧ i + k = l.length ∧ ∀ x ∈ l.take i, okB x) l.length ⟨0, rfl, by simp, by simp⟩ ?_
  rintro k q ⟨i, rfl, hi, hx⟩
  simp only [go_sem, ↓reduceIte, reduceCtorEq, upd_ne, back_new (no_at), Nat.reduceAdd, Nat.reduceEqDiff, Nat.reduceMul, Nat.reduceSub, Nat.reduceLeDiff, Nat.reduceLT, Int.reduceToNat, Int.reduceLE, Int.reduceLT, Int.reduceEq, UInt8.reduceOfNat]
  refine nxt_ite (fun h => ?_) (fun h => ?_)
  · have hlt : i < l.length := by omega
    obtain ⟨c, hc⟩ : ∃ c, l[i]? = some c := ⟨l[i], by simp [hlt]⟩
    have htk : l.take (i + 1) = l.take i ++ [c] := by rw [List.take_add_one, hc]; rfl
    have hcm : c ∈ l := List.mem_of_getElem? hc
    have e6 : IntKind.i64.wrap ((i : Int) + 1) = ((i + 1 : Nat) : Int) := by rw [wrap_id (by omega) (by omega)]; omega
    have hg : (l.map (LV.int IntKind.i64))[i]? = some (.int .i64 c) := by simp [hc]
    by_cases hb : c < 0 ∨ 255 < c
    · have hn : ¬ ∀ x ∈ l, okB x := fun h => by have := h c hcm; unfold okB at this; omega
      simp only [go_sem, ↓reduceIte, reduceCtorEq, upd_ne, back_new (no_at), Nat.reduceAdd, Nat.reduceEqDiff, Nat.reduceMul, Nat.reduceSub, Nat.reduceLeDiff, Nat.reduceLT, Int.reduceToNat, Int.reduceLE, Int.reduceLT, Int.reduceEq, UInt8.reduceOfNat, List.getElem?_map, Int.toNat_natCast, hg, hc, hlt, hb, Nxt, exIf, hn]
    · simp only [go_sem, ↓reduceIte, reduceCtorEq, upd_ne, back_new (no_at), Nat.reduceAdd, Nat.reduceEqDiff, Nat.reduceMul, Nat.reduceSub, Nat.reduceLeDiff, Nat.reduceLT, Int.reduceToNat, Int.reduceLE, Int.reduceLT, Int.reduceEq, UInt8.reduceOfNat, List.getElem?_map, Int.toNat_natCast, hg, hc, hlt, hb, e6]
      refine ⟨k - 1, by omega, i + 1, rfl, by omega, ?_⟩
      rw [htk]
      intro x hx'
      rcases List.mem_append.1 hx' with h' | h'
      · exact hx x h'
      · simp at h'; subst h'; unfold okB; omega
  · rw [List.take_of_length_le (by omega)] at hx
    simp only [go_sem, ↓reduceIte, reduceCtorEq, upd_ne, back_new (no_at), Nat.reduceAdd, Nat.reduceEqDiff, Nat.reduceMul, Nat.reduceSub, Nat.reduceLeDiff, Nat.reduceLT, Int.reduceToNat, Int.reduceLE, Int.reduceLT, Int.reduceEq, UInt8.reduceOfNat, Nxt, exIf, hx]
    simp only [decide_eq_true hx]
theorem ev_why4 {tos id ttl pt at' : Int} {df mo : Bool} {fr to op da : List UInt8} (hfr : fr.length = 4) (hto : to.length = 4) (hop : op.length ≤ 140737488351232) (hda : da.length ≤ 140737488351232) :
    S.ev (n + 2) id_ip4_why [ip4LV tos id ttl pt at' df mo fr to op da] none = some (.int .i64 (why4 tos id ttl pt at' mo op da), none) := by
  rw [Sys.step hS.h_ip4_why, F_ip4_why_eq]
  unfold F_ip4_why
  have hb := ev_byteful hS n [tos, ttl, pt] (by simp)
  simp only [List.map_cons, List.map_nil] at hb
  (try simp only [guard_merge, or_merge, and_merge, or_pick, and_pick, guard_or, guard_and]); simp only [to_ob]
  unfold why4
  have e1 : Int.tmod (op.length : Int) 4 = ((op.length % 4 : Nat) : Int) := rfl
  have e2 : Int.tmod (da.length : Int) 8 = ((da.length % 8 : Nat) : Int) := rfl
  by_cases cB : okB tos ∧ okB ttl ∧ okB pt
  · have hall : ∀ x ∈ [tos, ttl, pt], okB x := by simp only [List.forall_mem_cons]; exact ⟨cB.1, cB.2.1, cB.2.2, by simp⟩
    rw [decide_eq_true hall] at hb
    by_cases c1 : (0 ≤ id ∧ id ≤ 65535) ∧ (0 ≤ at' ∧ at' ≤ 65528) ∧ Int.tmod at' 8 = 0
    · obtain ⟨⟨c14, c15⟩, ⟨c16, c17⟩, c18⟩ := c1
      obtain ⟨c11, c12, c13⟩ := cB
      rw [if_pos ⟨c11, c12, c13, ⟨c14, c15⟩, ⟨c16, c17⟩, c18⟩]
      have d1 : ¬ id < 0 := by omega
      have d2 : ¬ 65535 < id := by omega
      have d3 : ¬ at' < 0 := by omega
      have d4 : ¬ 65528 < at' := by omega
      by_cases k1 : op.length ≤ 40
      · have k1' : ¬ 40 < (op.length : Int) := by omega
        have k5 : IntKind.i64.wrap (IntKind.i64.wrap (65515 - (op.length : Int)) - at') = 65515 - (op.length : Int) - at' := by
          rw [wrap_id (n := 65515 - (op.length : Int)) (by omega) (by omega), wrap_id (by omega) (by omega)]
        by_cases k2 : op.length % 4 = 0
        · have k2' : ((op.length % 4 : Nat) : Int) = 0 := by omega
          by_cases k6 : 20 + (op.length : Int) + at' + da.length ≤ 65535
          · have k6' : ¬ 65515 - (op.length : Int) - at' < (da.length : Int) := by omega
            cases mo
            · simp only [go_sem, ↓reduceIte, reduceCtorEq, upd_ne, back_new (no_at), Nat.reduceAdd, Nat.reduceEqDiff, Nat.reduceMul, Nat.reduceSub, Nat.reduceLeDiff, Nat.reduceLT, Int.reduceToNat, Int.reduceLE, Int.reduceLT, Int.reduceEq, UInt8.reduceOfNat, hb, hfr, hto, d1, d2, d3, d4, c11, c12, c13, c14, c15, c16, c17, c18, e1, e2, k1, k1', k2, k2', k5, k6, k6', false_implies]
            · by_cases k3 : da = []
              · subst k3
                simp only [go_sem, ↓reduceIte, reduceCtorEq, upd_ne, back_new (no_at), Nat.reduceAdd, Nat.reduceEqDiff, Nat.reduceMul, Nat.reduceSub, Nat.reduceLeDiff, Nat.reduceLT, Int.reduceToNat, Int.reduceLE, Int.reduceLT, Int.reduceEq, UInt8.reduceOfNat, hb, hfr, hto, d1, d2, d3, d4, c11, c12, c13, c14, c15, c16, c17, c18, e1, e2, k1, k1', k2, k2', true_implies]
              · have k3' : ¬ da.length = 0 := fun h => k3 (List.length_eq_zero_iff.1 h)
                by_cases k4 : da.length % 8 = 0
                · have k4' : ((da.length % 8 : Nat) : Int) = 0 := by omega
                  simp only [go_sem, ↓reduceIte, reduceCtorEq, upd_ne, back_new (no_at), Nat.reduceAdd, Nat.reduceEqDiff, Nat.reduceMul, Nat.reduceSub, Nat.reduceLeDiff, Nat.reduceLT, Int.reduceToNat, Int.reduceLE, Int.reduceLT, Int.reduceEq, UInt8.reduceOfNat, hb, hfr, hto, d1, d2, d3, d4, c11, c12, c13, c14, c15, c16, c17, c18, e1, e2, k1, k1', k2, k2', k3, k3', k4, k4', k5, k6, k6', true_implies]
                · have k4' : ¬ ((da.length % 8 : Nat) : Int) = 0 := by omega
                  simp only [go_sem, ↓reduceIte, reduceCtorEq, upd_ne, back_new (no_at), Nat.reduceAdd, Nat.reduceEqDiff, Nat.reduceMul, Nat.reduceSub, Nat.reduceLeDiff, Nat.reduceLT, Int.reduceToNat, Int.reduceLE, Int.reduceLT, Int.reduceEq, UInt8.reduceOfNat, hb, hfr, hto, d1, d2, d3, d4, c11, c12, c13, c14, c15, c16, c17, c18, e1, e2, k1, k1', k2, k2', k3, k3', k4, k4', true_implies]
          · have k6' : 65515 - (op.length : Int) - at' < (da.length : Int) := by omega
            cases mo
            · simp only [go_sem, ↓reduceIte, reduceCtorEq, upd_ne, back_new (no_at), Nat.reduceAdd, Nat.reduceEqDiff, Nat.reduceMul, Nat.reduceSub, Nat.reduceLeDiff, Nat.reduceLT, Int.reduceToNat, Int.reduceLE, Int.reduceLT, Int.reduceEq, UInt8.reduceOfNat, hb, hfr, hto, d1, d2, d3, d4, c11, c12, c13, c14, c15, c16, c17, c18, e1, e2, k1, k1', k2, k2', k5, k6, k6', false_implies]
            · by_cases k3 : da = []
              · subst k3
                simp only [go_sem, ↓reduceIte, reduceCtorEq, upd_ne, back_new (no_at), Nat.reduceAdd, Nat.reduceEqDiff, Nat.reduceMul, Nat.reduceSub, Nat.reduceLeDiff, Nat.reduceLT, Int.reduceToNat, Int.reduceLE, Int.reduceLT, Int.reduceEq, UInt8.reduceOfNat, hb, hfr, hto, d1, d2, d3, d4, c11, c12, c13, c14, c15, c16, c17, c18, e1, e2, k1, k1', k2, k2', true_implies]
              · have k3' : ¬ da.length = 0 := fun h => k3 (List.length_eq_zero_iff.1 h)
                by_cases k4 : da.length % 8 = 0
                · have k4' : ((da.length % 8 : Nat) : Int) = 0 := by omega
                  simp only [go_sem, ↓reduceIte, reduceCtorEq, upd_ne, back_new (no_at), Nat.reduceAdd, Nat.reduceEqDiff, Nat.reduceMul, Nat.reduceSub, Nat.reduceLeDiff, Nat.reduceLT, Int.reduceToNat, Int.reduceLE, Int.reduceLT, Int.reduceEq, UInt8.reduceOfNat, hb, hfr, hto, d1, d2, d3, d4, c11, c12, c13, c14, c15, c16, c17, c18, e1, e2, k1, k1', k2, k2', k3, k3', k4, k4', k5, k6, k6', true_implies]
                · have k4' : ¬ ((da.length % 8 : Nat) : Int) = 0 := by omega
                  simp only [go_sem, ↓reduceIte, reduceCtorEq, upd_ne, back_new (no_at), Nat.reduceAdd, Nat.reduceEqDiff, Nat.reduceMul, Nat.reduceSub, Nat.reduceLeDiff, Nat.reduceLT, Int.reduceToNat, Int.reduceLE, Int.reduceLT, Int.reduceEq, UInt8.reduceOfNat, hb, hfr, hto, d1, d2, d3, d4, c11, c12, c13, c14, c15, c16, c17, c18, e1, e2, k1, k1', k2, k2', k3, k3', k4, k4', true_implies]
        · have k2' : ¬ ((op.length % 4 : Nat) : Int) = 0 := by omega
          simp only [go_sem, ↓reduceIte, reduceCtorEq, upd_ne, back_new (no_at), Nat.reduceAdd, Nat.reduceEqDiff, Nat.reduceMul, Nat.reduceSub, Nat.reduceLeDiff, Nat.reduceLT, Int.reduceToNat, Int.reduceLE, Int.reduceLT, Int.reduceEq, UInt8.reduceOfNat, hb, hfr, hto, d1, d2, d3, d4, c11, c12, c13, c14, c15, c16, c17, c18, e1, e2, k1, k1', k2, k2']
      · have k1' : 40 < (op.length : Int) := by omega
        simp only [go_sem, ↓reduceIte, reduceCtorEq, upd_ne, back_new (no_at), Nat.reduceAdd, Nat.reduceEqDiff, Nat.reduceMul, Nat.reduceSub, Nat.reduceLeDiff, Nat.reduceLT, Int.reduceToNat, Int.reduceLE, Int.reduceLT, Int.reduceEq, UInt8.reduceOfNat, hb, hfr, hto, d1, d2, d3, d4, c11, c12, c13, c14, c15, c16, c17, c18, e1, e2, k1, k1']
    · have c1' : (((id < 0 ∨ 65535 < id) ∨ at' < 0) ∨ 65528 < at') ∨ ¬ Int.tmod at' 8 = 0 := by
        by_cases h8 : Int.tmod at' 8 = 0
        · left; simp only [h8, and_true] at c1; omega
        · right; exact h8
      have c2 : ¬ (okB tos ∧ okB ttl ∧ okB pt ∧ (0 ≤ id ∧ id ≤ 65535) ∧ (0 ≤ at' ∧ at' ≤ 65528) ∧ Int.tmod at' 8 = 0) := fun h => c1 h.2.2.2
      rw [if_neg c2]
      simp only [go_sem, ↓reduceIte, reduceCtorEq, upd_ne, back_new (no_at), Nat.reduceAdd, Nat.reduceEqDiff, Nat.reduceMul, Nat.reduceSub, Nat.reduceLeDiff, Nat.reduceLT, Int.reduceToNat, Int.reduceLE, Int.reduceLT, Int.reduceEq, UInt8.reduceOfNat, hb, hfr, hto, c1']
  · have hall : ¬ ∀ x ∈ [tos, ttl, pt], okB x := fun h => cB ⟨h _ (by simp), h _ (by simp), h _ (by simp)⟩
    rw [decide_eq_false hall] at hb
    have c2 : ¬ (okB tos ∧ okB ttl ∧ okB pt ∧ (0 ≤ id ∧ id ≤ 65535) ∧ (0 ≤ at' ∧ at' ≤ 65528) ∧ Int.tmod at' 8 = 0) := fun h => cB ⟨h.1, h.2.1, h.2.2.1⟩
    rw [if_neg c2]
    simp only [go_sem, ↓reduceIte, reduceCtorEq, upd_ne, back_new (no_at), Nat.reduceAdd, Nat.reduceEqDiff, Nat.reduceMul, Nat.reduceSub, Nat.reduceLeDiff, Nat.reduceLT, Int.reduceToNat, Int.reduceLE, Int.reduceLT, Int.reduceEq, UInt8.reduceOfNat, hb, hfr, hto]
theorem ev_big4 (x : Int) (m : Nat) (hm : m = 1 ∨ m = 2 ∨ m = 4) (hx : 0 ≤ x ∧ x < ((256 ^ m : Nat) : Int)) (h64 : I64 x) : S.ev (n + 2) id_ip4_big [.int .i64 x, .int .i64 (m : Int)] none = some (.str (beB m x.toNat), none) := by
  rw [Sys.step hS.h_ip4_big, F_ip4_big_eq]
  unfold F_ip4_big
  have h1 := ev_Big hS n x m hm h64
  unfold bigR at h1
  rw [if_pos hx] at h1
  (try simp only [guard_merge, or_merge, and_merge, or_pick, and_pick, guard_or, guard_and]); simp only [to_ob]
  simp only [go_sem, ↓reduceIte, reduceCtorEq, upd_ne, back_new (no_at), Nat.reduceAdd, Nat.reduceEqDiff, Nat.reduceMul, Nat.reduceSub, Nat.reduceLeDiff, Nat.reduceLT, Int.reduceToNat, Int.reduceLE, Int.reduceLT, Int.reduceEq, UInt8.reduceOfNat, h1]
theorem ev_fault4' (c : Int) : S.ev (n + 1) id_ip4_fault [.int .i64 c] none = some (faultLV c, none) := by
  rw [Sys.step hS.h_ip4_fault, F_ip4_fault_eq]
  unfold F_ip4_fault
  simp only [to_ob]
  simp only [go_sem, ↓reduceIte, reduceCtorEq, upd_ne, back_new (no_at), Nat.reduceAdd, Nat.reduceEqDiff, Nat.reduceMul, Nat.reduceSub, Nat.reduceLeDiff, Nat.reduceLT, Int.reduceToNat, Int.reduceLE, Int.reduceLT, Int.reduceEq, UInt8.reduceOfNat]
end
end Go.Ev

namespace Go.Ev
set_option linter.unusedSimpArgs false
set_option linter.unusedVariables false
set_option maxRecDepth 4000
set_option maxHeartbeats 4000000
def at4 (at' : Int) (df mo : Bool) : Nat := at'.toNat / 8 + (if df = true then 16384 else 0) + (if mo = true then 8192 else 0)
def hd4 (tos id ttl pt at' : Int) (df mo : Bool) (op da : List UInt8) : List UInt8 :=
  beB 1 (64 + (20 + op.length) / 4) ++ (beB 1 tos.toNat ++ (beB 2 (20 + op.length + da.length) ++ (beB 2 id.toNat ++ (beB 2 (at4 at' df mo) ++ (beB 1 ttl.toNat ++ beB 1 pt.toNat)))))
def x4 (tos id ttl pt at' : Int) (df mo : Bool) (fr to op da : List UInt8) : Int := sumS (hd4 tos id ttl pt at' df mo op da ++ (fr ++ (to ++ op)))
def by4 (tos id ttl pt at' : Int) (df mo : Bool) (fr to op da : List UInt8) : List UInt8 :=
  hd4 tos id ttl pt at' df mo op da ++ (beB 2 (x4 tos id ttl pt at' df mo fr to op da).toNat ++ (fr ++ (to ++ (op ++ da))))
def by4R (tos id ttl pt at' : Int) (df mo : Bool) (fr to op da : List UInt8) : List UInt8 := if why4 tos id ttl pt at' mo op da = 0 then by4 tos id ttl pt at' df mo fr to op da else []
structure Ok4 (tos id ttl pt at' : Int) (mo : Bool) (op da : List UInt8) : Prop where
  ktos : 0 ≤ tos ∧ tos ≤ 255
  kttl : 0 ≤ ttl ∧ ttl ≤ 255
  kpt : 0 ≤ pt ∧ pt ≤ 255
  kid : 0 ≤ id ∧ id ≤ 65535
  kat : 0 ≤ at' ∧ at' ≤ 65528
  kat8 : Int.tmod at' 8 = 0
  kop : op.length ≤ 40
  kop4 : op.length % 4 = 0
  kmo : mo = true → da.length ≠ 0 ∧ da.length % 8 = 0
  kall : 20 + (op.length : Int) + at' + da.length ≤ 65535
theorem why4_zero {tos id ttl pt at' : Int} {mo : Bool} {op da : List UInt8} : why4 tos id ttl pt at' mo op da = 0 ↔ Ok4 tos id ttl pt at' mo op da := by
  unfold why4
  constructor
  · intro h
    split at h
    case isFalse => simp at h
    rename_i h1
    split at h
    case isFalse => simp at h
    rename_i h2
    split at h
    case isFalse => simp at h
    rename_i h3
    exact ⟨h1.1, h1.2.1, h1.2.2.1, h1.2.2.2.1, h1.2.2.2.2.1, h1.2.2.2.2.2, h2.1, h2.2.1, h2.2.2, h3⟩
  · intro h
    rw [if_pos ⟨h.ktos, h.kttl, h.kpt, h.kid, h.kat, h.kat8⟩, if_pos ⟨h.kop, h.kop4, h.kmo⟩, if_pos h.kall]
theorem or_df {a : Nat} (h : a < 8192) : a ||| 16384 = a + 16384 := by
  rw [Nat.or_comm, show 16384 = 1 <<< 14 by rfl, ← Nat.shiftLeft_add_eq_or_of_lt (by omega)]
  omega
theorem or_mo {a : Nat} (h : a < 8192) : a ||| 8192 = a + 8192 := by
  rw [Nat.or_comm, show 8192 = 1 <<< 13 by rfl, ← Nat.shiftLeft_add_eq_or_of_lt (by omega)]
  omega
theorem or_dm {a : Nat} (h : a < 8192) : (a + 16384) ||| 8192 = a + 16384 + 8192 := by
  rw [← or_df h, Nat.or_assoc, show 16384 ||| 8192 = 3 <<< 13 by rfl, Nat.or_comm, ← Nat.shiftLeft_add_eq_or_of_lt (by omega), or_df h]
  simp only [Nat.shiftLeft_eq]
  omega
section
variable {S : Sys} (hS : Has S) (n : Nat)
include hS
theorem ev_bytes4 {tos id ttl pt at' : Int} {df mo : Bool} {fr to op da : List UInt8} (hf : FitIp4 tos id ttl pt at' fr to op da) :
    S.ev (n + 3) id_ip4_Bytes [ip4LV tos id ttl pt at' df mo fr to op da] none = some (.tup [.str (by4R tos id ttl pt at' df mo fr to op da), fE (why4 tos id ttl pt at' mo op da)], none) := by
  rw [Sys.step hS.h_ip4_Bytes, F_ip4_Bytes_eq]
  unfold F_ip4_Bytes F_ip4_Bytes_k2 F_ip4_Bytes_k1
  have hfr := hf.hfr
  have hto := hf.hto
  have hw := ev_why4 hS n (tos := tos) (id := id) (ttl := ttl) (pt := pt) (at' := at') (df := df) (mo := mo) hfr hto hf.hop hf.hda
  have hfa := ev_fault4' hS (n + 1)
  (try simp only [guard_merge, or_merge, and_merge, or_pick, and_pick, guard_or, guard_and]); simp only [to_ob]
  unfold by4R
  by_cases c : why4 tos id ttl pt at' mo op da = 0
  · have ok := why4_zero.1 c
    obtain ⟨o1, o2, o3, o4, o5, o6, o7, o8, o9, o10⟩ := ok
    rw [c] at hw
    obtain ⟨at', rfl⟩ := Int.eq_ofNat_of_zero_le o5.1
    have b1 : S.ev (n + 2) id_ip4_big [.int .i64 ((64 + (20 + op.length) / 4 : Nat) : Int), .int .i64 1] none = some (.str (beB 1 (64 + (20 + op.length) / 4)), none) := ev_big4 hS n _ 1 (by omega) (lt1 (by omega) (by omega)) ⟨by omega, by omega⟩
    have b2 : S.ev (n + 2) id_ip4_big [.int .i64 tos, .int .i64 1] none = some (.str (beB 1 tos.toNat), none) := ev_big4 hS n _ 1 (by omega) (lt1 (by omega) (by omega)) ⟨by omega, by omega⟩
    have b3 : S.ev (n + 2) id_ip4_big [.int .i64 ((20 + op.length + da.length : Nat) : Int), .int .i64 2] none = some (.str (beB 2 (20 + op.length + da.length)), none) := ev_big4 hS n _ 2 (by omega) (lt2 (by omega) (by omega)) ⟨by omega, by omega⟩
    have b4 : S.ev (n + 2) id_ip4_big [.int .i64 id, .int .i64 2] none = some (.str (beB 2 id.toNat), none) := ev_big4 hS n _ 2 (by omega) (lt2 (by omega) (by omega)) ⟨by omega, by omega⟩
    have ha4 : at4 at' df mo < 65536 := by unfold at4; rw [Int.toNat_natCast]; split <;> split <;> omega
    have b5 : S.ev (n + 2) id_ip4_big [.int .i64 ((at4 at' df mo : Nat) : Int), .int .i64 2] none = some (.str (beB 2 (at4 at' df mo)), none) := ev_big4 hS n _ 2 (by omega) (lt2 (by omega) (by omega)) ⟨by omega, by omega⟩
    have b6 : S.ev (n + 2) id_ip4_big [.int .i64 ttl, .int .i64 1] none = some (.str (beB 1 ttl.toNat), none) := ev_big4 hS n _ 1 (by omega) (lt1 (by omega) (by omega)) ⟨by omega, by omega⟩
    have b7 : S.ev (n + 2) id_ip4_big [.int .i64 pt, .int .i64 1] none = some (.str (beB 1 pt.toNat), none) := ev_big4 hS n _ 1 (by omega) (lt1 (by omega) (by omega)) ⟨by omega, by omega⟩
    have hx := sumS_le (hd4 tos id ttl pt at' df mo op da ++ (fr ++ (to ++ op)))
    have hx : 0 ≤ x4 tos id ttl pt at' df mo fr to op da ∧ x4 tos id ttl pt at' df mo fr to op da ≤ 65535 := hx
    have b8 : S.ev (n + 2) id_ip4_big [.int .i64 (x4 tos id ttl pt at' df mo fr to op da), .int .i64 2] none = some (.str (beB 2 (x4 tos id ttl pt at' df mo fr to op da).toNat), none) := ev_big4 hS n _ 2 (by omega) (lt2 (by omega) (by omega)) ⟨by omega, by omega⟩
    have ho := ev_Of hS n [hd4 tos id ttl pt at' df mo op da, fr ++ (to ++ op)] (by simp) (by simp [hd4, beB_len]; omega)
    simp only [List.map_cons, List.map_nil, List.flatten_cons, List.flatten_nil, List.append_nil] at ho
    have ho : S.ev (n + 2) id_sum_Of [.lst none [.str (hd4 tos id ttl pt at' df mo op da), .str (fr ++ (to ++ op))]] none = some (.int .i64 (x4 tos id ttl pt at' df mo fr to op da), none) := ho
    have hby : by4 tos id ttl pt at' df mo fr to op da = hd4 tos id ttl pt at' df mo op da ++ (beB 2 (x4 tos id ttl pt at' df mo fr to op da).toNat ++ (fr ++ (to ++ (op ++ da)))) := rfl
    generalize by4 tos id ttl pt at' df mo fr to op da = Y at *
    generalize x4 tos id ttl pt at' df mo fr to op da = X at *
    have e1 : IntKind.i64.wrap (Int.tdiv (at' : Int) 8) = ((at' / 8 : Nat) : Int) := by
      rw [show Int.tdiv (at' : Int) 8 = ((at' / 8 : Nat) : Int) from rfl, wrap_id (by omega) (by omega)]
    have e2 : IntKind.i64.wrap (20 + (op.length : Int)) = ((20 + op.length : Nat) : Int) := by rw [wrap_id (by omega) (by omega)]; omega
    have e3 : IntKind.i64.wrap (Int.tdiv ((20 + op.length : Nat) : Int) 4) = (((20 + op.length) / 4 : Nat) : Int) := by
      rw [show Int.tdiv ((20 + op.length : Nat) : Int) 4 = (((20 + op.length) / 4 : Nat) : Int) from rfl, wrap_id (by omega) (by omega)]
    have e4 : IntKind.i64.wrap (64 + (((20 + op.length) / 4 : Nat) : Int)) = ((64 + (20 + op.length) / 4 : Nat) : Int) := by rw [wrap_id (by omega) (by omega)]; omega
    have e5 : IntKind.i64.wrap (((20 + op.length : Nat) : Int) + (da.length : Int)) = ((20 + op.length + da.length : Nat) : Int) := by rw [wrap_id (by omega) (by omega)]; omega
    have hl := beB_len
    have hl9 : ∀ k : Nat, k ≤ 1000000 → k ≤ maxStr := fun k h => by unfold maxStr; omega
    have a7 : at' / 8 < 8192 := by omega
    have f1 : bitsOf .or .i64 ((at' / 8 : Nat) : Int) 16384 = ((at' / 8 + 16384 : Nat) : Int) := by
      rw [show (16384 : Int) = ((16384 : Nat) : Int) from rfl, bits_or_nat (by simp [IntKind.max, IntKind.signed, IntKind.bits]; omega) (by decide), or_df a7]
    have f2 : bitsOf .or .i64 ((at' / 8 : Nat) : Int) 8192 = ((at' / 8 + 8192 : Nat) : Int) := by
      rw [show (8192 : Int) = ((8192 : Nat) : Int) from rfl, bits_or_nat (by simp [IntKind.max, IntKind.signed, IntKind.bits]; omega) (by decide), or_mo a7]
    have f3 : bitsOf .or .i64 ((at' / 8 + 16384 : Nat) : Int) 8192 = ((at' / 8 + 16384 + 8192 : Nat) : Int) := by
      rw [show (8192 : Int) = ((8192 : Nat) : Int) from rfl, bits_or_nat (by simp [IntKind.max, IntKind.signed, IntKind.bits]; omega) (by decide), or_dm a7]
    unfold hd4 at hby ho
    have ht1 : fr.take 4 = fr := List.take_of_length_le (by omega)
    have ht2 : to.take 4 = to := List.take_of_length_le (by omega)
    have m2 : 2 ≤ maxStr := by decide
    have m4 : 4 ≤ maxStr := by decide
    have m6 : 6 ≤ maxStr := by decide
    have m8 : 8 ≤ maxStr := by decide
    have m9 : 9 ≤ maxStr := by decide
    have m10 : 10 ≤ maxStr := by decide
    cases df
    · cases mo
      · have g5 : at4 at' false false = at' / 8 := by unfold at4; simp
        rw [g5] at b5 hby ho
        simp only [go_sem, ↓reduceIte, reduceCtorEq, upd_ne, back_new (no_at), Nat.reduceAdd, Nat.reduceEqDiff, Nat.reduceMul, Nat.reduceSub, Nat.reduceLeDiff, Nat.reduceLT, Int.reduceToNat, Int.reduceLE, Int.reduceLT, Int.reduceEq, UInt8.reduceOfNat, hw, c, hfr, hto, e1, e2, e3, e4, e5, b1, b2, b3, b4, b5, b6, b7, b8, ho, hl, ht1, ht2, toBytes_byteLV, m2, m4, m6, m8, m9, m10, List.append_assoc, List.length_append]
        simp only [hby, fE, if_true, List.append_assoc]
        repeat rw [if_pos (by unfold maxStr; omega)]
      · have g5 : at4 at' false true = at' / 8 + 8192 := by unfold at4; simp
        rw [g5] at b5 hby ho
        simp only [go_sem, ↓reduceIte, reduceCtorEq, upd_ne, back_new (no_at), Nat.reduceAdd, Nat.reduceEqDiff, Nat.reduceMul, Nat.reduceSub, Nat.reduceLeDiff, Nat.reduceLT, Int.reduceToNat, Int.reduceLE, Int.reduceLT, Int.reduceEq, UInt8.reduceOfNat, hw, c, hfr, hto, e1, e2, e3, e4, e5, f2, b1, b2, b3, b4, b5, b6, b7, b8, ho, hl, ht1, ht2, toBytes_byteLV, m2, m4, m6, m8, m9, m10, List.append_assoc, List.length_append]
        simp only [hby, fE, if_true, List.append_assoc]
        repeat rw [if_pos (by unfold maxStr; omega)]
    · cases mo
      · have g5 : at4 at' true false = at' / 8 + 16384 := by unfold at4; simp
        rw [g5] at b5 hby ho
        simp only [go_sem, ↓reduceIte, reduceCtorEq, upd_ne, back_new (no_at), Nat.reduceAdd, Nat.reduceEqDiff, Nat.reduceMul, Nat.reduceSub, Nat.reduceLeDiff, Nat.reduceLT, Int.reduceToNat, Int.reduceLE, Int.reduceLT, Int.reduceEq, UInt8.reduceOfNat, hw, c, hfr, hto, e1, e2, e3, e4, e5, f1, b1, b2, b3, b4, b5, b6, b7, b8, ho, hl, ht1, ht2, toBytes_byteLV, m2, m4, m6, m8, m9, m10, List.append_assoc, List.length_append]
        simp only [hby, fE, if_true, List.append_assoc]
        repeat rw [if_pos (by unfold maxStr; omega)]
      · have g5 : at4 at' true true = at' / 8 + 16384 + 8192 := by unfold at4; simp
        rw [g5] at b5 hby ho
        simp only [go_sem, ↓reduceIte, reduceCtorEq, upd_ne, back_new (no_at), Nat.reduceAdd, Nat.reduceEqDiff, Nat.reduceMul, Nat.reduceSub, Nat.reduceLeDiff, Nat.reduceLT, Int.reduceToNat, Int.reduceLE, Int.reduceLT, Int.reduceEq, UInt8.reduceOfNat, hw, c, hfr, hto, e1, e2, e3, e4, e5, f1, f3, b1, b2, b3, b4, b5, b6, b7, b8, ho, hl, ht1, ht2, toBytes_byteLV, m2, m4, m6, m8, m9, m10, List.append_assoc, List.length_append]
        simp only [hby, fE, if_true, List.append_assoc]
        repeat rw [if_pos (by unfold maxStr; omega)]
  · have hw' : ¬ why4 tos id ttl pt at' mo op da = 0 := c
    simp only [go_sem, ↓reduceIte, reduceCtorEq, upd_ne, back_new (no_at), Nat.reduceAdd, Nat.reduceEqDiff, Nat.reduceMul, Nat.reduceSub, Nat.reduceLeDiff, Nat.reduceLT, Int.reduceToNat, Int.reduceLE, Int.reduceLT, Int.reduceEq, UInt8.reduceOfNat, hw, hfa, c, hfr, hto, fE]
end
end Go.Ev

namespace Go.Ev
set_option linter.unusedSimpArgs false
set_option linter.unusedVariables false
set_option maxRecDepth 4000
set_option maxHeartbeats 4000000
def n4 (s : List UInt8) : Nat := bAt s 0 % 16 * 4
def pat4 (s : List UInt8) : Int := ((wAt s 6 % 8192 * 8 : Nat) : Int)
def pdf4 (s : List UInt8) : Bool := decide (wAt s 6 / 16384 % 2 = 1)
def pmo4 (s : List UInt8) : Bool := decide (wAt s 6 / 8192 % 2 = 1)
def pop4 (s : List UInt8) : List UInt8 := (s.drop 20).take (n4 s - 20)
def pda4 (s : List UInt8) : List UInt8 := (s.drop (n4 s)).take (wAt s 2 - n4 s)
def pfr4 (s : List UInt8) : List UInt8 := (s.drop 12).take 4
def pto4 (s : List UInt8) : List UInt8 := (s.drop 16).take 4
def pwhy4 (s : List UInt8) : Int := why4 (bAt s 1) (wAt s 4) (bAt s 8) (bAt s 9) (pat4 s) (pmo4 s) (pop4 s) (pda4 s)
def pK4 (s : List UInt8) : Int :=
  if s.length < 20 then 7 else if bAt s 0 / 16 ≠ 4 ∨ n4 s < 20 then 8 else if s.length < n4 s then 7 else if sumS (s.take (n4 s)) ≠ 0 then 9 else
  if wAt s 2 < n4 s then 8 else if s.length < wAt s 2 then 7 else if 32768 ≤ wAt s 6 ∨ pwhy4 s ≠ 0 then 8 else 0
abbrev z4LV : LV := ip4LV 0 0 0 0 0 false false [0, 0, 0, 0] [0, 0, 0, 0] [] []
def pLV4 (s : List UInt8) : LV := if pK4 s = 0 then ip4LV (bAt s 1) (wAt s 4) (bAt s 8) (bAt s 9) (pat4 s) (pdf4 s) (pmo4 s) (pfr4 s) (pto4 s) (pop4 s) (pda4 s) else z4LV
theorem and_pow0 (x k : Nat) : x &&& 2 ^ k = 0 ↔ ¬ x / 2 ^ k % 2 = 1 := by
  constructor
  · intro h h1
    have h2 : (x &&& 2 ^ k).testBit k = false := by rw [h]; exact Nat.zero_testBit k
    rw [Nat.testBit_and, Nat.testBit_two_pow, Nat.testBit_eq_decide_div_mod_eq] at h2
    simp [h1] at h2
  · intro h
    apply Nat.eq_of_testBit_eq
    intro i
    rw [Nat.testBit_and, Nat.testBit_two_pow, Nat.zero_testBit]
    by_cases hk : k = i
    · subst hk; rw [Nat.testBit_eq_decide_div_mod_eq]; simp [h]
    · simp [hk]
theorem bit14 (x : Nat) (h : x ≤ 65535) : (bitsOf .and .i64 (x : Int) 16384 = 0) ↔ ¬ x / 16384 % 2 = 1 := by
  rw [show (16384 : Int) = ((2 ^ 14 : Nat) : Int) from rfl, bits_and_nat (by simp [IntKind.max, IntKind.signed, IntKind.bits]; omega) (by decide)]
  have := and_pow0 x 14
  rw [← show (2 : Nat) ^ 14 = 16384 from rfl, ← this]
  omega
theorem bit13 (x : Nat) (h : x ≤ 65535) : (bitsOf .and .i64 (x : Int) 8192 = 0) ↔ ¬ x / 8192 % 2 = 1 := by
  rw [show (8192 : Int) = ((2 ^ 13 : Nat) : Int) from rfl, bits_and_nat (by simp [IntKind.max, IntKind.signed, IntKind.bits]; omega) (by decide)]
  have := and_pow0 x 13
  rw [← show (2 : Nat) ^ 13 = 8192 from rfl, ← this]
  omega
theorem bit15 (x : Nat) (h : x ≤ 65535) : (bitsOf .and .i64 (x : Int) 32768 = 0) ↔ x < 32768 := by
  rw [show (32768 : Int) = ((2 ^ 15 : Nat) : Int) from rfl, bits_and_nat (by simp [IntKind.max, IntKind.signed, IntKind.bits]; omega) (by decide)]
  have := and_pow0 x 15
  rw [show (2 : Nat) ^ 15 = 32768 from rfl] at this
  constructor
  · intro h1
    have h1 : x &&& 2 ^ 15 = 0 := by omega
    have := this.1 h1
    omega
  · intro h1
    have h2 := this.2 (by omega)
    rw [h2]; rfl
theorem wc7 {sl : Slots} {t g : Nat} {tos id ttl pt at' : Int} {df mo : Bool} {fr to op da s : List UInt8} (hf : fr.length = 4) (hs : 4 ≤ s.length) :
    wCopy (upd sl t (.obj g (ip4LV tos id ttl pt at' df mo fr to op da))) (.arr t g [7] 7 0 4) (.str s) = some (.int .i64 4, upd (upd sl t (.obj g (ip4LV tos id ttl pt at' df mo fr to op da))) t (.obj g (ip4LV tos id ttl pt at' df mo (s.take 4) to op da))) := by
  have h1 : min s.length 4 = 4 := by omega
  have h2 : fr.drop 4 = [] := List.drop_eq_nil_of_le (by omega)
  have hg : getPath (ip4LV tos id ttl pt at' df mo fr to op da) [7] = some (.bytes fr, 7) := by simp only [go_sem, ↓reduceIte, reduceCtorEq, upd_ne, back_new (no_at), Nat.reduceAdd, Nat.reduceEqDiff, Nat.reduceMul, Nat.reduceSub, Nat.reduceLeDiff, Nat.reduceLT, Int.reduceToNat, Int.reduceLE, Int.reduceLT, Int.reduceEq, UInt8.reduceOfNat]
  have hp : setPath (ip4LV tos id ttl pt at' df mo fr to op da) [7] (.bytes (s.take 4)) = some (ip4LV tos id ttl pt at' df mo (s.take 4) to op da) := by simp only [go_sem, ↓reduceIte, reduceCtorEq, upd_ne, back_new (no_at), Nat.reduceAdd, Nat.reduceEqDiff, Nat.reduceMul, Nat.reduceSub, Nat.reduceLeDiff, Nat.reduceLT, Int.reduceToNat, Int.reduceLE, Int.reduceLT, Int.reduceEq, UInt8.reduceOfNat]
  unfold wCopy
  simp only [upd_same, if_true, hg]
  rw [if_pos ⟨trivial, by omega⟩]
  simp only [h1, Option.bind_some, List.take_zero, List.nil_append, Nat.zero_add, h2, List.append_nil, hp, Option.map_some]
  rfl
theorem wc8 {sl : Slots} {t g : Nat} {tos id ttl pt at' : Int} {df mo : Bool} {fr to op da s : List UInt8} (hf : fr.length = 4) (ht : to.length = 4) (hs : 4 ≤ s.length) :
    wCopy (upd sl t (.obj g (ip4LV tos id ttl pt at' df mo fr to op da))) (.arr t g [8] 11 0 4) (.str s) = some (.int .i64 4, upd (upd sl t (.obj g (ip4LV tos id ttl pt at' df mo fr to op da))) t (.obj g (ip4LV tos id ttl pt at' df mo fr (s.take 4) op da))) := by
  have h1 : min s.length 4 = 4 := by omega
  have h2 : to.drop 4 = [] := List.drop_eq_nil_of_le (by omega)
  have hg : getPath (ip4LV tos id ttl pt at' df mo fr to op da) [8] = some (.bytes to, 11) := by simp only [go_sem, ↓reduceIte, reduceCtorEq, upd_ne, back_new (no_at), Nat.reduceAdd, Nat.reduceEqDiff, Nat.reduceMul, Nat.reduceSub, Nat.reduceLeDiff, Nat.reduceLT, Int.reduceToNat, Int.reduceLE, Int.reduceLT, Int.reduceEq, UInt8.reduceOfNat, hf]
  have hp : setPath (ip4LV tos id ttl pt at' df mo fr to op da) [8] (.bytes (s.take 4)) = some (ip4LV tos id ttl pt at' df mo fr (s.take 4) op da) := by simp only [go_sem, ↓reduceIte, reduceCtorEq, upd_ne, back_new (no_at), Nat.reduceAdd, Nat.reduceEqDiff, Nat.reduceMul, Nat.reduceSub, Nat.reduceLeDiff, Nat.reduceLT, Int.reduceToNat, Int.reduceLE, Int.reduceLT, Int.reduceEq, UInt8.reduceOfNat]
  unfold wCopy
  simp only [upd_same, if_true, hg]
  rw [if_pos ⟨trivial, by omega⟩]
  simp only [h1, Option.bind_some, List.take_zero, List.nil_append, Nat.zero_add, h2, List.append_nil, hp, Option.map_some]
  rfl
section
variable {S : Sys} (hS : Has S) (n : Nat)
include hS
theorem ev_two4 (s : List UInt8) (i : Nat) (h : i + 1 < s.length) (hi : i ≤ 1000) : S.ev (n + 1) id_ip4_Parse_1 [.int .i64 (i : Int), .box (.str s)] none = some (.int .i64 (wAt s i : Nat), none) := by
  rw [Sys.step hS.h_ip4_Parse_1, F_ip4_Parse_1_eq]
  unfold F_ip4_Parse_1
  have ha := get_def (s := s) (i := i) (by omega)
  have hb := get_def (s := s) (i := i + 1) (by omega)
  have hal := (s.getD i 0).toNat_lt
  have hbl := (s.getD (i + 1) 0).toNat_lt
  have e1 : IntKind.i64.wrap ((s.getD i 0).toNat : Int) = ((s.getD i 0).toNat : Int) := wrap_id (by omega) (by omega)
  have e2 : IntKind.i64.wrap ((s.getD (i + 1) 0).toNat : Int) = ((s.getD (i + 1) 0).toNat : Int) := wrap_id (by omega) (by omega)
  have e3 : IntKind.i64.wrap ((i : Int) + 1) = ((i + 1 : Nat) : Int) := by rw [wrap_id (by omega) (by omega)]; omega
  have e4 : IntKind.i64.wrap (((s.getD i 0).toNat : Int) * 2 ^ min 8 64) = (((s.getD i 0).toNat * 256 : Nat) : Int) := by
    rw [show min 8 64 = 8 from rfl, wrap_id (by omega) (by omega)]; omega
  have e5 := w16_or (s.getD i 0) (s.getD (i + 1) 0)
  simp only [to_ob]
  simp only [go_sem, ↓reduceIte, reduceCtorEq, upd_ne, back_new (no_at), Nat.reduceAdd, Nat.reduceEqDiff, Nat.reduceMul, Nat.reduceSub, Nat.reduceLeDiff, Nat.reduceLT, Int.reduceToNat, Int.reduceLE, Int.reduceLT, Int.reduceEq, UInt8.reduceOfNat, List.getElem?_map, Int.toNat_natCast, ha, hb, e1, e2, e3, e4, e5, wAt]
theorem ev_Right1 (a : List UInt8) (h : a.length ≤ 140737488351232) : S.ev (n + 3) id_sum_Right [.lst none [.str a]] none = some (.bool (decide (sumS a = 0)), none) := by
  rw [Sys.step hS.h_sum_Right, F_sum_Right_eq]
  unfold F_sum_Right
  have ho := ev_Of hS n [a] (by simp) (by simpa using h)
  simp only [List.map_cons, List.map_nil, List.flatten_cons, List.flatten_nil, List.append_nil] at ho
  (try simp only [guard_merge, or_merge, and_merge, or_pick, and_pick, guard_or, guard_and]); simp only [to_ob]
  simp only [go_sem, ↓reduceIte, reduceCtorEq, upd_ne, back_new (no_at), Nat.reduceAdd, Nat.reduceEqDiff, Nat.reduceMul, Nat.reduceSub, Nat.reduceLeDiff, Nat.reduceLT, Int.reduceToNat, Int.reduceLE, Int.reduceLT, Int.reduceEq, UInt8.reduceOfNat, ho, sumS]
  rfl
theorem ev_parse4 (s : List UInt8) (hs : s.length ≤ 140737488351232) : S.ev (n + 4) id_ip4_Parse [.str s] none = some (.tup [pLV4 s, fE (pK4 s)], none) := by
  rw [Sys.step hS.h_ip4_Parse, F_ip4_Parse_eq]
  unfold F_ip4_Parse
  have hfa := ev_fault4' hS (n + 2)
  (try simp only [guard_merge, or_merge, and_merge, or_pick, and_pick, guard_or, guard_and]); simp only [to_ob]
  unfold pLV4 pK4
  by_cases c1 : s.length < 20
  · have c1' : (s.length : Int) < 20 := by omega
    simp only [go_sem, ↓reduceIte, reduceCtorEq, upd_ne, back_new (no_at), Nat.reduceAdd, Nat.reduceEqDiff, Nat.reduceMul, Nat.reduceSub, Nat.reduceLeDiff, Nat.reduceLT, Int.reduceToNat, Int.reduceLE, Int.reduceLT, Int.reduceEq, UInt8.reduceOfNat, c1, c1', hfa, fE]
  · have c1' : ¬ (s.length : Int) < 20 := by omega
    have g0 := get_def (s := s) (i := 0) (by omega)
    have hb0 := bAt_le s 0
    have e1 : bitsOf .and .u8 ((s.getD 0 0).toNat : Int) 15 = ((bAt s 0 % 16 : Nat) : Int) := by
      rw [show (15 : Int) = ((2 ^ 4 - 1 : Nat) : Int) from rfl, bits_mask 4 (by omega) (show ((s.getD 0 0).toNat : Int) ≤ 255 by unfold bAt at hb0; omega) (by decide)]
      rfl
    have e2 : IntKind.i64.wrap ((bAt s 0 % 16 : Nat) : Int) = ((bAt s 0 % 16 : Nat) : Int) := wrap_id (by omega) (by omega)
    have e3 : IntKind.i64.wrap (((bAt s 0 % 16 : Nat) : Int) * 4) = ((n4 s : Nat) : Int) := by rw [wrap_id (by omega) (by omega)]; unfold n4; omega
    have e4 : Int.fdiv ((s.getD 0 0).toNat : Int) (2 ^ min 4 8) = ((bAt s 0 / 16 : Nat) : Int) := by
      rw [show min 4 8 = 4 from rfl, Int.fdiv_eq_ediv_of_nonneg _ (by decide)]; rfl
    by_cases c2 : bAt s 0 / 16 ≠ 4 ∨ n4 s < 20
    · have c2' : (¬ ((bAt s 0 / 16 : Nat) : Int) = 4) ∨ ((n4 s : Nat) : Int) < 20 := by omega
      simp only [go_sem, ↓reduceIte, reduceCtorEq, upd_ne, back_new (no_at), Nat.reduceAdd, Nat.reduceEqDiff, Nat.reduceMul, Nat.reduceSub, Nat.reduceLeDiff, Nat.reduceLT, Int.reduceToNat, Int.reduceLE, Int.reduceLT, Int.reduceEq, UInt8.reduceOfNat, List.getElem?_map, Int.toNat_natCast, c1, c1', c2, c2', hfa, fE, g0, byteLV, e1, e2, e3, e4]
    · have c2' : ¬ ((¬ ((bAt s 0 / 16 : Nat) : Int) = 4) ∨ ((n4 s : Nat) : Int) < 20) := by omega
      by_cases c3 : s.length < n4 s
      · have c3' : (s.length : Int) < ((n4 s : Nat) : Int) := by omega
        simp only [go_sem, ↓reduceIte, reduceCtorEq, upd_ne, back_new (no_at), Nat.reduceAdd, Nat.reduceEqDiff, Nat.reduceMul, Nat.reduceSub, Nat.reduceLeDiff, Nat.reduceLT, Int.reduceToNat, Int.reduceLE, Int.reduceLT, Int.reduceEq, UInt8.reduceOfNat, List.getElem?_map, Int.toNat_natCast, c1, c1', c2, c2', c3, c3', hfa, fE, g0, byteLV, e1, e2, e3, e4]
      · have c3' : ¬ (s.length : Int) < ((n4 s : Nat) : Int) := by omega
        have c3'' : n4 s ≤ s.length := by omega
        have hr := ev_Right1 hS n (s.take (n4 s)) (by rw [List.length_take]; omega)
        by_cases c4 : sumS (s.take (n4 s)) = 0
        · have t2 : S.ev (n + 3) id_ip4_Parse_1 [.int .i64 2, .box (.str s)] none = some (.int .i64 (wAt s 2 : Nat), none) := ev_two4 hS (n + 2) s 2 (by omega) (by omega)
          have t6 : S.ev (n + 3) id_ip4_Parse_1 [.int .i64 6, .box (.str s)] none = some (.int .i64 (wAt s 6 : Nat), none) := ev_two4 hS (n + 2) s 6 (by omega) (by omega)
          have t4 : S.ev (n + 3) id_ip4_Parse_1 [.int .i64 4, .box (.str s)] none = some (.int .i64 (wAt s 4 : Nat), none) := ev_two4 hS (n + 2) s 4 (by omega) (by omega)
          by_cases c5 : wAt s 2 < n4 s
          · have c5' : ((wAt s 2 : Nat) : Int) < ((n4 s : Nat) : Int) := by omega
            simp only [go_sem, ↓reduceIte, reduceCtorEq, upd_ne, back_new (no_at), Nat.reduceAdd, Nat.reduceEqDiff, Nat.reduceMul, Nat.reduceSub, Nat.reduceLeDiff, Nat.reduceLT, Int.reduceToNat, Int.reduceLE, Int.reduceLT, Int.reduceEq, UInt8.reduceOfNat, List.getElem?_map, Int.toNat_natCast, List.all_cons, List.all_nil, Nat.sub_zero, c1, c1', c2, c2', c3, c3', c3'', c4, hr, t2, t6, c5, c5', hfa, fE, g0, byteLV, e1, e2, e3, e4]
          · have c5' : ¬ ((wAt s 2 : Nat) : Int) < ((n4 s : Nat) : Int) := by omega
            have c5'' : n4 s ≤ wAt s 2 := by omega
            by_cases c6 : s.length < wAt s 2
            · have c6' : (s.length : Int) < ((wAt s 2 : Nat) : Int) := by omega
              simp only [go_sem, ↓reduceIte, reduceCtorEq, upd_ne, back_new (no_at), Nat.reduceAdd, Nat.reduceEqDiff, Nat.reduceMul, Nat.reduceSub, Nat.reduceLeDiff, Nat.reduceLT, Int.reduceToNat, Int.reduceLE, Int.reduceLT, Int.reduceEq, UInt8.reduceOfNat, List.getElem?_map, Int.toNat_natCast, List.all_cons, List.all_nil, Nat.sub_zero, c1, c1', c2, c2', c3, c3', c3'', c4, hr, t2, t6, c5, c5', c6, c6', hfa, fE, g0, byteLV, e1, e2, e3, e4]
            · have c6' : ¬ (s.length : Int) < ((wAt s 2 : Nat) : Int) := by omega
              have c6'' : wAt s 2 ≤ s.length := by omega
              have g1 := get_def (s := s) (i := 1) (by omega)
              have g8 := get_def (s := s) (i := 8) (by omega)
              have g9 := get_def (s := s) (i := 9) (by omega)
              have hb1 := bAt_le s 1
              have hb8 := bAt_le s 8
              have hb9 := bAt_le s 9
              have hw6 := wAt_le s 6
              have w1 : IntKind.i64.wrap ((s.getD 1 0).toNat : Int) = ((bAt s 1 : Nat) : Int) := wrap_id (by omega) (by unfold bAt at hb1; omega)
              have w8 : IntKind.i64.wrap ((s.getD 8 0).toNat : Int) = ((bAt s 8 : Nat) : Int) := wrap_id (by omega) (by unfold bAt at hb8; omega)
              have w9 : IntKind.i64.wrap ((s.getD 9 0).toNat : Int) = ((bAt s 9 : Nat) : Int) := wrap_id (by omega) (by unfold bAt at hb9; omega)
              have f1 : bitsOf .and .i64 ((wAt s 6 : Nat) : Int) 8191 = ((wAt s 6 % 8192 : Nat) : Int) := by
                rw [show (8191 : Int) = ((2 ^ 13 - 1 : Nat) : Int) from rfl, bits_mask 13 (by omega) (show ((wAt s 6 : Nat) : Int) ≤ 9223372036854775807 by omega) (by decide)]
                rfl
              have f2 : IntKind.i64.wrap (((wAt s 6 % 8192 : Nat) : Int) * 8) = pat4 s := by rw [wrap_id (by omega) (by omega)]; unfold pat4; omega
              have f3 := bit14 (wAt s 6) hw6
              have f4 := bit13 (wAt s 6) hw6
              have f5 := bit15 (wAt s 6) hw6
              have l20 : 20 ≤ n4 s := by omega
              have l12 : 12 ≤ s.length := by omega
              have l16 : 16 ≤ s.length := by omega
              have l12' : 4 ≤ s.length - 12 := by omega
              have l16' : 4 ≤ s.length - 16 := by omega
              have hlf : (pfr4 s).length = 4 := by unfold pfr4; simp; omega
              have hlt : (pto4 s).length = 4 := by unfold pto4; simp; omega
              have hwy := ev_why4 hS (n + 1) (tos := (bAt s 1 : Nat)) (id := (wAt s 4 : Nat)) (ttl := (bAt s 8 : Nat)) (pt := (bAt s 9 : Nat)) (at' := pat4 s) (df := pdf4 s) (mo := pmo4 s) (op := pop4 s) (da := pda4 s) hlf hlt (by unfold pop4; simp; omega) (by unfold pda4; simp; omega)
              have hwy : S.ev (n + 3) id_ip4_why [ip4LV (bAt s 1 : Nat) (wAt s 4 : Nat) (bAt s 8 : Nat) (bAt s 9 : Nat) (pat4 s) (pdf4 s) (pmo4 s) (pfr4 s) (pto4 s) (pop4 s) (pda4 s)] none = some (.int .i64 (pwhy4 s), none) := hwy
              have k1 : ∀ sl : Slots, wCopy (upd sl 9 (.obj 1 (ip4LV (bAt s 1 : Nat) (wAt s 4 : Nat) (bAt s 8 : Nat) (bAt s 9 : Nat) (pat4 s) (pdf4 s) (pmo4 s) [0, 0, 0, 0] [0, 0, 0, 0] (pop4 s) (pda4 s)))) (.arr 9 1 [7] 7 0 4) (.str (s.drop 12)) = _ := fun sl => wc7 rfl (by simp; omega)
              have k2 : ∀ sl : Slots, wCopy (upd sl 9 (.obj 1 (ip4LV (bAt s 1 : Nat) (wAt s 4 : Nat) (bAt s 8 : Nat) (bAt s 9 : Nat) (pat4 s) (pdf4 s) (pmo4 s) (pfr4 s) [0, 0, 0, 0] (pop4 s) (pda4 s)))) (.arr 9 1 [8] 11 0 4) (.str (s.drop 16)) = _ := fun sl => wc8 hlf rfl (by simp; omega)
              have v1 : decide (wAt s 6 / 16384 % 2 = 1) = pdf4 s := rfl
              have v2 : decide (wAt s 6 / 8192 % 2 = 1) = pmo4 s := rfl
              have v3 : (s.drop 20).take (n4 s - 20) = pop4 s := rfl
              have v4 : (s.drop (n4 s)).take (wAt s 2 - n4 s) = pda4 s := rfl
              have v5 : (s.drop 12).take 4 = pfr4 s := rfl
              have v6 : (s.drop 16).take 4 = pto4 s := rfl
              by_cases c7 : wAt s 6 < 32768
              · have c7' : ¬ 32768 ≤ wAt s 6 := by omega
                by_cases c8 : pwhy4 s = 0
                · rw [c8] at hwy
                  simp only [go_sem, ↓reduceIte, reduceCtorEq, upd_ne, back_new (no_at), Nat.reduceAdd, Nat.reduceEqDiff, Nat.reduceMul, Nat.reduceSub, Nat.reduceLeDiff, Nat.reduceLT, Int.reduceToNat, Int.reduceLE, Int.reduceLT, Int.reduceEq, UInt8.reduceOfNat, List.getElem?_map, Int.toNat_natCast, List.all_cons, List.all_nil, Nat.sub_zero, c1, c1', c2, c2', c3, c3', c3'', c4, hr, t2, t6, t4, c5, c5', c5'', c6, c6', c6'', l20, l12, l16, hfa, fE, g0, g1, g8, g9, byteLV, e1, e2, e3, e4, w1, w8, w9, f1, f2, f3, f4, f5, c7, c7', c8, hwy, v1, v2, v3, v4, v5, v6, Decidable.not_not, k1, k2, hlf, hlt]
                · simp only [go_sem, ↓reduceIte, reduceCtorEq, upd_ne, back_new (no_at), Nat.reduceAdd, Nat.reduceEqDiff, Nat.reduceMul, Nat.reduceSub, Nat.reduceLeDiff, Nat.reduceLT, Int.reduceToNat, Int.reduceLE, Int.reduceLT, Int.reduceEq, UInt8.reduceOfNat, List.getElem?_map, Int.toNat_natCast, List.all_cons, List.all_nil, Nat.sub_zero, c1, c1', c2, c2', c3, c3', c3'', c4, hr, t2, t6, t4, c5, c5', c5'', c6, c6', c6'', l20, l12, l16, hfa, fE, g0, g1, g8, g9, byteLV, e1, e2, e3, e4, w1, w8, w9, f1, f2, f3, f4, f5, c7, c7', c8, hwy, v1, v2, v3, v4, v5, v6, Decidable.not_not, k1, k2, hlf, hlt]
              · have c7' : 32768 ≤ wAt s 6 := by omega
                simp only [go_sem, ↓reduceIte, reduceCtorEq, upd_ne, back_new (no_at), Nat.reduceAdd, Nat.reduceEqDiff, Nat.reduceMul, Nat.reduceSub, Nat.reduceLeDiff, Nat.reduceLT, Int.reduceToNat, Int.reduceLE, Int.reduceLT, Int.reduceEq, UInt8.reduceOfNat, List.getElem?_map, Int.toNat_natCast, List.all_cons, List.all_nil, Nat.sub_zero, c1, c1', c2, c2', c3, c3', c3'', c4, hr, t2, t6, t4, c5, c5', c5'', c6, c6', c6'', l20, l12, l16, hfa, fE, g0, g1, g8, g9, byteLV, e1, e2, e3, e4, w1, w8, w9, f1, f2, f3, f4, f5, c7, c7', hwy, v1, v2, v3, v4, v5, v6, Decidable.not_not, k1, k2, hlf, hlt]
        · simp only [go_sem, ↓reduceIte, reduceCtorEq, upd_ne, back_new (no_at), Nat.reduceAdd, Nat.reduceEqDiff, Nat.reduceMul, Nat.reduceSub, Nat.reduceLeDiff, Nat.reduceLT, Int.reduceToNat, Int.reduceLE, Int.reduceLT, Int.reduceEq, UInt8.reduceOfNat, List.getElem?_map, Int.toNat_natCast, List.all_cons, List.all_nil, Nat.sub_zero, c1, c1', c2, c2', c3, c3', c3'', c4, hr, hfa, fE, g0, byteLV, e1, e2, e3, e4]
end
end Go.Ev

namespace Go.Ev
set_option linter.unusedSimpArgs false
set_option linter.unusedVariables false
set_option maxRecDepth 10000
set_option maxHeartbeats 8000000
def iK4 (s : List UInt8) : Int :=
  if s.length < 20 then 7 else if bAt s 0 / 16 ≠ 4 ∨ n4 s < 20 then 8 else if s.length < n4 s then 7 else if sumS (s.take (n4 s)) ≠ 0 then 9 else
  if wAt s 2 < n4 s ∨ 32768 ≤ wAt s 6 ∨ 65535 < wAt s 6 % 8192 * 8 + wAt s 2 then 8 else if (pda4 s).length < min 8 (wAt s 2 - n4 s) then 7 else 0
def iLV4 (s : List UInt8) : LV := if iK4 s = 0 then ip4LV (bAt s 1) (wAt s 4) (bAt s 8) (bAt s 9) (pat4 s) (pdf4 s) (pmo4 s) (pfr4 s) (pto4 s) (pop4 s) (pda4 s) else z4LV
def iC4 (s : List UInt8) : Int := if iK4 s = 0 then ((wAt s 2 - n4 s : Nat) : Int) else 0
section
variable {S : Sys} (hS : Has S) (n : Nat)
include hS
theorem ev_faultF (c : Int) : S.ev (n + 1) id_fault_fault [.int .i64 c] none = some (faultLV c, none) := by
  rw [Sys.step hS.h_fault_fault, F_fault_fault_eq]
  unfold F_fault_fault
  simp only [to_ob]
  simp only [go_sem, ↓reduceIte, reduceCtorEq, upd_ne, back_new (no_at), Nat.reduceAdd, Nat.reduceEqDiff, Nat.reduceMul, Nat.reduceSub, Nat.reduceLeDiff, Nat.reduceLT, Int.reduceToNat, Int.reduceLE, Int.reduceLT, Int.reduceEq, UInt8.reduceOfNat]
theorem ev_twoF (s : List UInt8) (i : Nat) (h : i + 1 < s.length) (hi : i ≤ 1000) : S.ev (n + 1) id_fault_Inside4_1 [.int .i64 (i : Int), .box (.str s)] none = some (.int .i64 (wAt s i : Nat), none) := by
  rw [Sys.step hS.h_fault_Inside4_1, F_fault_Inside4_1_eq]
  unfold F_fault_Inside4_1
  have ha := get_def (s := s) (i := i) (by omega)
  have hb := get_def (s := s) (i := i + 1) (by omega)
  have hal := (s.getD i 0).toNat_lt
  have hbl := (s.getD (i + 1) 0).toNat_lt
  have e1 : IntKind.i64.wrap ((s.getD i 0).toNat : Int) = ((s.getD i 0).toNat : Int) := wrap_id (by omega) (by omega)
  have e2 : IntKind.i64.wrap ((s.getD (i + 1) 0).toNat : Int) = ((s.getD (i + 1) 0).toNat : Int) := wrap_id (by omega) (by omega)
  have e3 : IntKind.i64.wrap ((i : Int) + 1) = ((i + 1 : Nat) : Int) := by rw [wrap_id (by omega) (by omega)]; omega
  have e4 : IntKind.i64.wrap (((s.getD i 0).toNat : Int) * 2 ^ min 8 64) = (((s.getD i 0).toNat * 256 : Nat) : Int) := by
    rw [show min 8 64 = 8 from rfl, wrap_id (by omega) (by omega)]; omega
  have e5 := w16_or (s.getD i 0) (s.getD (i + 1) 0)
  simp only [to_ob]
  simp only [go_sem, ↓reduceIte, reduceCtorEq, upd_ne, back_new (no_at), Nat.reduceAdd, Nat.reduceEqDiff, Nat.reduceMul, Nat.reduceSub, Nat.reduceLeDiff, Nat.reduceLT, Int.reduceToNat, Int.reduceLE, Int.reduceLT, Int.reduceEq, UInt8.reduceOfNat, List.getElem?_map, Int.toNat_natCast, ha, hb, e1, e2, e3, e4, e5, wAt]
theorem ev_short (d : List UInt8) (c : Int) : S.ev (n + 1) id_fault_short [.str d, .int .i64 c] none = some (.bool (decide ((d.length : Int) < min 8 c)), none) := by
  rw [Sys.step hS.h_fault_short, F_fault_short_eq]
  unfold F_fault_short
  have hm : (if c < 8 then c else 8) = min 8 c := by split <;> omega
  simp only [to_ob]
  simp only [go_sem, ↓reduceIte, reduceCtorEq, upd_ne, back_new (no_at), Nat.reduceAdd, Nat.reduceEqDiff, Nat.reduceMul, Nat.reduceSub, Nat.reduceLeDiff, Nat.reduceLT, Int.reduceToNat, Int.reduceLE, Int.reduceLT, Int.reduceEq, UInt8.reduceOfNat, pMinmax, pMinmax2, Option.bind_some, Bool.false_eq_true, hm]
theorem ev_inside4 (s : List UInt8) (hs : s.length ≤ 140737488351232) : S.ev (n + 4) id_fault_Inside4 [.str s] none = some (.tup [iLV4 s, .int .i64 (iC4 s), fE (iK4 s)], none) := by
  rw [Sys.step hS.h_fault_Inside4, F_fault_Inside4_eq]
  unfold F_fault_Inside4
  have hfa := ev_faultF hS (n + 2)
  (try simp only [guard_merge, or_merge, and_merge, or_pick, and_pick, guard_or, guard_and]); simp only [to_ob]
  unfold iLV4 iC4 iK4
  by_cases c1 : s.length < 20
  · have c1' : (s.length : Int) < 20 := by omega
    simp only [go_sem, ↓reduceIte, reduceCtorEq, upd_ne, back_new (no_at), Nat.reduceAdd, Nat.reduceEqDiff, Nat.reduceMul, Nat.reduceSub, Nat.reduceLeDiff, Nat.reduceLT, Int.reduceToNat, Int.reduceLE, Int.reduceLT, Int.reduceEq, UInt8.reduceOfNat, c1, c1', hfa, fE]
  · have c1' : ¬ (s.length : Int) < 20 := by omega
    have g0 := get_def (s := s) (i := 0) (by omega)
    have hb0 := bAt_le s 0
    have e1 : bitsOf .and .u8 ((s.getD 0 0).toNat : Int) 15 = ((bAt s 0 % 16 : Nat) : Int) := by
      rw [show (15 : Int) = ((2 ^ 4 - 1 : Nat) : Int) from rfl, bits_mask 4 (by omega) (show ((s.getD 0 0).toNat : Int) ≤ 255 by unfold bAt at hb0; omega) (by decide)]
      rfl
    have e2 : IntKind.i64.wrap ((bAt s 0 % 16 : Nat) : Int) = ((bAt s 0 % 16 : Nat) : Int) := wrap_id (by omega) (by omega)
    have e3 : IntKind.i64.wrap (((bAt s 0 % 16 : Nat) : Int) * 4) = ((n4 s : Nat) : Int) := by rw [wrap_id (by omega) (by omega)]; unfold n4; omega
    have e4 : Int.fdiv ((s.getD 0 0).toNat : Int) (2 ^ min 4 8) = ((bAt s 0 / 16 : Nat) : Int) := by
      rw [show min 4 8 = 4 from rfl, Int.fdiv_eq_ediv_of_nonneg _ (by decide)]; rfl
    by_cases c2 : bAt s 0 / 16 ≠ 4 ∨ n4 s < 20
    · have c2' : (¬ ((bAt s 0 / 16 : Nat) : Int) = 4) ∨ ((n4 s : Nat) : Int) < 20 := by omega
      simp only [go_sem, ↓reduceIte, reduceCtorEq, upd_ne, back_new (no_at), Nat.reduceAdd, Nat.reduceEqDiff, Nat.reduceMul, Nat.reduceSub, Nat.reduceLeDiff, Nat.reduceLT, Int.reduceToNat, Int.reduceLE, Int.reduceLT, Int.reduceEq, UInt8.reduceOfNat, List.getElem?_map, Int.toNat_natCast, c1, c1', c2, c2', hfa, fE, g0, byteLV, e1, e2, e3, e4]
    · have c2' : ¬ ((¬ ((bAt s 0 / 16 : Nat) : Int) = 4) ∨ ((n4 s : Nat) : Int) < 20) := by omega
      by_cases c3 : s.length < n4 s
      · have c3' : (s.length : Int) < ((n4 s : Nat) : Int) := by omega
        simp only [go_sem, ↓reduceIte, reduceCtorEq, upd_ne, back_new (no_at), Nat.reduceAdd, Nat.reduceEqDiff, Nat.reduceMul, Nat.reduceSub, Nat.reduceLeDiff, Nat.reduceLT, Int.reduceToNat, Int.reduceLE, Int.reduceLT, Int.reduceEq, UInt8.reduceOfNat, List.getElem?_map, Int.toNat_natCast, c1, c1', c2, c2', c3, c3', hfa, fE, g0, byteLV, e1, e2, e3, e4]
      · have c3' : ¬ (s.length : Int) < ((n4 s : Nat) : Int) := by omega
        have c3'' : n4 s ≤ s.length := by omega
        have hr := ev_Right1 hS n (s.take (n4 s)) (by rw [List.length_take]; omega)
        by_cases c4 : sumS (s.take (n4 s)) = 0
        · have t2 : S.ev (n + 3) id_fault_Inside4_1 [.int .i64 2, .box (.str s)] none = some (.int .i64 (wAt s 2 : Nat), none) := ev_twoF hS (n + 2) s 2 (by omega) (by omega)
          have t6 : S.ev (n + 3) id_fault_Inside4_1 [.int .i64 6, .box (.str s)] none = some (.int .i64 (wAt s 6 : Nat), none) := ev_twoF hS (n + 2) s 6 (by omega) (by omega)
          have t4 : S.ev (n + 3) id_fault_Inside4_1 [.int .i64 4, .box (.str s)] none = some (.int .i64 (wAt s 4 : Nat), none) := ev_twoF hS (n + 2) s 4 (by omega) (by omega)
          have c4n : ¬ (sumS (s.take (n4 s)) ≠ 0) := fun h => h c4
          have hw6 := wAt_le s 6
          have hw2 := wAt_le s 2
          have f1 : bitsOf .and .i64 ((wAt s 6 : Nat) : Int) 8191 = ((wAt s 6 % 8192 : Nat) : Int) := by
            rw [show (8191 : Int) = ((2 ^ 13 - 1 : Nat) : Int) from rfl, bits_mask 13 (by omega) (show ((wAt s 6 : Nat) : Int) ≤ 9223372036854775807 by omega) (by decide)]
            rfl
          have f2 : IntKind.i64.wrap (((wAt s 6 % 8192 : Nat) : Int) * 8) = pat4 s := by rw [wrap_id (by omega) (by omega)]; unfold pat4; omega
          have f3 := bit14 (wAt s 6) hw6
          have f4 := bit13 (wAt s 6) hw6
          have f5 := bit15 (wAt s 6) hw6
          have f6 : IntKind.i64.wrap (pat4 s + ((wAt s 2 : Nat) : Int)) = ((wAt s 6 % 8192 * 8 + wAt s 2 : Nat) : Int) := by unfold pat4; rw [wrap_id (by omega) (by omega)]; omega
          by_cases c5 : wAt s 2 < n4 s ∨ 32768 ≤ wAt s 6 ∨ 65535 < wAt s 6 % 8192 * 8 + wAt s 2
          · rw [if_neg c1, if_neg c2, if_neg c3, if_neg c4n, if_pos c5]
            by_cases d1 : ((wAt s 2 : Nat) : Int) < ((n4 s : Nat) : Int)
            · by_cases d2 : wAt s 6 < 32768 <;> by_cases d3 : 65535 < ((wAt s 6 % 8192 * 8 + wAt s 2 : Nat) : Int) <;>
              simp only [go_sem, ↓reduceIte, reduceCtorEq, upd_ne, back_new (no_at), Nat.reduceAdd, Nat.reduceEqDiff, Nat.reduceMul, Nat.reduceSub, Nat.reduceLeDiff, Nat.reduceLT, Int.reduceToNat, Int.reduceLE, Int.reduceLT, Int.reduceEq, UInt8.reduceOfNat, List.getElem?_map, Int.toNat_natCast, List.all_cons, List.all_nil, Nat.sub_zero, c1', c2', c3', c3'', c4, hr, t2, t6, f1, f2, f5, f6, d1, d2, d3, hfa, fE, g0, byteLV, e1, e2, e3, e4, Decidable.not_not]
            · by_cases d2 : wAt s 6 < 32768 <;> by_cases d3 : 65535 < ((wAt s 6 % 8192 * 8 + wAt s 2 : Nat) : Int) <;> first | (exfalso; omega) |
              simp only [go_sem, ↓reduceIte, reduceCtorEq, upd_ne, back_new (no_at), Nat.reduceAdd, Nat.reduceEqDiff, Nat.reduceMul, Nat.reduceSub, Nat.reduceLeDiff, Nat.reduceLT, Int.reduceToNat, Int.reduceLE, Int.reduceLT, Int.reduceEq, UInt8.reduceOfNat, List.getElem?_map, Int.toNat_natCast, List.all_cons, List.all_nil, Nat.sub_zero, c1', c2', c3', c3'', c4, hr, t2, t6, f1, f2, f5, f6, d1, d2, d3, hfa, fE, g0, byteLV, e1, e2, e3, e4, Decidable.not_not]
          · have d1 : ¬ ((wAt s 2 : Nat) : Int) < ((n4 s : Nat) : Int) := by omega
            have d2 : wAt s 6 < 32768 := by omega
            have d3 : ¬ 65535 < ((wAt s 6 % 8192 * 8 + wAt s 2 : Nat) : Int) := by omega
            have b1 : IntKind.i64.wrap (((wAt s 2 : Nat) : Int) - ((n4 s : Nat) : Int)) = ((wAt s 2 - n4 s : Nat) : Int) := by rw [wrap_id (by omega) (by omega)]; omega
            have hmm : (if ((wAt s 2 : Nat) : Int) < (s.length : Int) then ((wAt s 2 : Nat) : Int) else (s.length : Int)) = ((min s.length (wAt s 2) : Nat) : Int) := by split <;> omega
            have m1 : n4 s ≤ min s.length (wAt s 2) := by omega
            have m2 : min s.length (wAt s 2) ≤ s.length := by omega
            have m3 : (s.drop (n4 s)).take (min s.length (wAt s 2) - n4 s) = pda4 s := by
              unfold pda4
              by_cases q : s.length ≤ wAt s 2
              · rw [Nat.min_eq_left q, List.take_of_length_le (by simp), List.take_of_length_le (by simp; omega)]
              · rw [Nat.min_eq_right (by omega)]
            have hsh := ev_short hS (n + 2) (pda4 s) ((wAt s 2 - n4 s : Nat) : Int)
            rw [if_neg c1, if_neg c2, if_neg c3, if_neg c4n, if_neg c5]
            generalize min s.length (wAt s 2) = B at *
            by_cases c6 : (pda4 s).length < min 8 (wAt s 2 - n4 s)
            · rw [decide_eq_true (by omega)] at hsh
              rw [if_pos c6]
              simp only [go_sem, ↓reduceIte, reduceCtorEq, upd_ne, back_new (no_at), Nat.reduceAdd, Nat.reduceEqDiff, Nat.reduceMul, Nat.reduceSub, Nat.reduceLeDiff, Nat.reduceLT, Int.reduceToNat, Int.reduceLE, Int.reduceLT, Int.reduceEq, UInt8.reduceOfNat, List.getElem?_map, Int.toNat_natCast, List.all_cons, List.all_nil, Nat.sub_zero, pMinmax, pMinmax2, Option.bind_some, c1', c2', c3', c3'', c4, hr, t2, t6, f1, f2, f5, f6, d1, d2, d3, hfa, fE, g0, byteLV, e1, e2, e3, e4, Decidable.not_not, hmm, m1, m2, m3, b1, hsh, Bool.false_eq_true]
            · rw [decide_eq_false (by omega)] at hsh
              rw [if_neg c6]
              have g1 := get_def (s := s) (i := 1) (by omega)
              have g8 := get_def (s := s) (i := 8) (by omega)
              have g9 := get_def (s := s) (i := 9) (by omega)
              have hb1 := bAt_le s 1
              have hb8 := bAt_le s 8
              have hb9 := bAt_le s 9
              have w1 : IntKind.i64.wrap ((s.getD 1 0).toNat : Int) = ((bAt s 1 : Nat) : Int) := wrap_id (by omega) (by unfold bAt at hb1; omega)
              have w8 : IntKind.i64.wrap ((s.getD 8 0).toNat : Int) = ((bAt s 8 : Nat) : Int) := wrap_id (by omega) (by unfold bAt at hb8; omega)
              have w9 : IntKind.i64.wrap ((s.getD 9 0).toNat : Int) = ((bAt s 9 : Nat) : Int) := wrap_id (by omega) (by unfold bAt at hb9; omega)
              have l20 : 20 ≤ n4 s := by omega
              have l12 : 12 ≤ s.length := by omega
              have l16 : 16 ≤ s.length := by omega
              have hlf : (pfr4 s).length = 4 := by unfold pfr4; simp; omega
              have hlt : (pto4 s).length = 4 := by unfold pto4; simp; omega
              have k1 : ∀ sl : Slots, wCopy (upd sl 2 (.obj 1 (ip4LV (bAt s 1 : Nat) (wAt s 4 : Nat) (bAt s 8 : Nat) (bAt s 9 : Nat) (pat4 s) (pdf4 s) (pmo4 s) [0, 0, 0, 0] [0, 0, 0, 0] (pop4 s) (pda4 s)))) (.arr 2 1 [7] 7 0 4) (.str (s.drop 12)) = _ := fun sl => wc7 rfl (by simp; omega)
              have k2 : ∀ sl : Slots, wCopy (upd sl 2 (.obj 1 (ip4LV (bAt s 1 : Nat) (wAt s 4 : Nat) (bAt s 8 : Nat) (bAt s 9 : Nat) (pat4 s) (pdf4 s) (pmo4 s) (pfr4 s) [0, 0, 0, 0] (pop4 s) (pda4 s)))) (.arr 2 1 [8] 11 0 4) (.str (s.drop 16)) = _ := fun sl => wc8 hlf rfl (by simp; omega)
              have v1 : decide (wAt s 6 / 16384 % 2 = 1) = pdf4 s := rfl
              have v2 : decide (wAt s 6 / 8192 % 2 = 1) = pmo4 s := rfl
              have v3 : (s.drop 20).take (n4 s - 20) = pop4 s := rfl
              have v5 : (s.drop 12).take 4 = pfr4 s := rfl
              have v6 : (s.drop 16).take 4 = pto4 s := rfl
              have t12 : (s.drop 12).take (s.length - 12) = s.drop 12 := List.take_of_length_le (by simp)
              have t16 : (s.drop 16).take (s.length - 16) = s.drop 16 := List.take_of_length_le (by simp)
              simp only [go_sem, ↓reduceIte, reduceCtorEq, upd_ne, back_new (no_at), Nat.reduceAdd, Nat.reduceEqDiff, Nat.reduceMul, Nat.reduceSub, Nat.reduceLeDiff, Nat.reduceLT, Int.reduceToNat, Int.reduceLE, Int.reduceLT, Int.reduceEq, UInt8.reduceOfNat, List.getElem?_map, Int.toNat_natCast, List.all_cons, List.all_nil, Nat.sub_zero, pMinmax, pMinmax2, Option.bind_some, c1', c2', c3', c3'', c4, hr, t2, t6, t4, f1, f2, f3, f4, f5, f6, d1, d2, d3, hfa, fE, g0, g1, g8, g9, byteLV, e1, e2, e3, e4, w1, w8, w9, l20, l12, l16, Decidable.not_not, hmm, m1, m2, m3, b1, hsh, v1, v2, v3, v5, v6, k1, k2, hlf, hlt, Bool.false_eq_true]
        · simp only [go_sem, ↓reduceIte, reduceCtorEq, upd_ne, back_new (no_at), Nat.reduceAdd, Nat.reduceEqDiff, Nat.reduceMul, Nat.reduceSub, Nat.reduceLeDiff, Nat.reduceLT, Int.reduceToNat, Int.reduceLE, Int.reduceLT, Int.reduceEq, UInt8.reduceOfNat, List.getElem?_map, Int.toNat_natCast, List.all_cons, List.all_nil, Nat.sub_zero, c1, c1', c2, c2', c3, c3', c3'', c4, hr, hfa, fE, g0, byteLV, e1, e2, e3, e4]
end
end Go.Ev

namespace Go.Ev
set_option linter.unusedSimpArgs false
set_option linter.unusedVariables false
set_option maxRecDepth 10000
set_option maxHeartbeats 8000000
abbrev msgLV (k c r : Int) (d : List UInt8) : LV := .agg [.int .i64 k, .int .i64 c, .int .u32 r, .str d]
def isF4 (k : Int) : Bool := decide (k = 3 ∨ k = 4 ∨ k = 5 ∨ k = 11 ∨ k = 12)
def begN (l head : Nat) (room : Int) : Nat := (min (l : Int) room).toNat
def begO (l head : Nat) (room : Int) : Bool := decide (((min (head + 8) l : Nat) : Int) ≤ min (l : Int) room)
def im4H (k c r : Int) : List UInt8 := beB 1 k.toNat ++ beB 1 c.toNat
def im4S (k c r : Int) (d : List UInt8) : Int := sumS (beB 1 k.toNat ++ (beB 1 c.toNat ++ (0 :: 0 :: (beB 4 r.toNat ++ d))))
def im4B (k c r : Int) (d : List UInt8) : List UInt8 := beB 1 k.toNat ++ (beB 1 c.toNat ++ (beB 2 (im4S k c r d).toNat ++ (beB 4 r.toNat ++ d)))
section
variable {S : Sys} (hS : Has S) (n : Nat)
include hS
theorem ev_bigF (x : Int) (m : Nat) (hm : m = 1 ∨ m = 2 ∨ m = 4) (hx : 0 ≤ x ∧ x < ((256 ^ m : Nat) : Int)) (h64 : I64 x) : S.ev (n + 2) id_fault_big [.int .i64 x, .int .i64 (m : Int)] none = some (.str (beB m x.toNat), none) := by
  rw [Sys.step hS.h_fault_big, F_fault_big_eq]
  unfold F_fault_big
  have h1 := ev_Big hS n x m hm h64
  unfold bigR at h1
  rw [if_pos hx] at h1
  (try simp only [guard_merge, or_merge, and_merge, or_pick, and_pick, guard_or, guard_and]); simp only [to_ob]
  simp only [go_sem, ↓reduceIte, reduceCtorEq, upd_ne, back_new (no_at), Nat.reduceAdd, Nat.reduceEqDiff, Nat.reduceMul, Nat.reduceSub, Nat.reduceLeDiff, Nat.reduceLT, Int.reduceToNat, Int.reduceLE, Int.reduceLT, Int.reduceEq, UInt8.reduceOfNat, h1]
theorem ev_failure4 (k c r : Int) (d : List UInt8) : S.ev (n + 1) id_icmp4_Failure [msgLV k c r d] none = some (.bool (isF4 k), none) := by
  rw [Sys.step hS.h_icmp4_Failure, F_icmp4_Failure_eq]
  unfold F_icmp4_Failure isF4
  (try simp only [guard_merge, or_merge, and_merge, or_pick, and_pick, guard_or, guard_and]); simp only [to_ob]
  by_cases h3 : k = 3
  · subst h3; simp only [go_sem, ↓reduceIte, reduceCtorEq, upd_ne, back_new (no_at), Nat.reduceAdd, Nat.reduceEqDiff, Nat.reduceMul, Nat.reduceSub, Nat.reduceLeDiff, Nat.reduceLT, Int.reduceToNat, Int.reduceLE, Int.reduceLT, Int.reduceEq, UInt8.reduceOfNat]
  by_cases h4 : k = 4
  · subst h4; simp only [go_sem, ↓reduceIte, reduceCtorEq, upd_ne, back_new (no_at), Nat.reduceAdd, Nat.reduceEqDiff, Nat.reduceMul, Nat.reduceSub, Nat.reduceLeDiff, Nat.reduceLT, Int.reduceToNat, Int.reduceLE, Int.reduceLT, Int.reduceEq, UInt8.reduceOfNat]
  by_cases h5 : k = 5
  · subst h5; simp only [go_sem, ↓reduceIte, reduceCtorEq, upd_ne, back_new (no_at), Nat.reduceAdd, Nat.reduceEqDiff, Nat.reduceMul, Nat.reduceSub, Nat.reduceLeDiff, Nat.reduceLT, Int.reduceToNat, Int.reduceLE, Int.reduceLT, Int.reduceEq, UInt8.reduceOfNat]
  by_cases h11 : k = 11
  · subst h11; simp only [go_sem, ↓reduceIte, reduceCtorEq, upd_ne, back_new (no_at), Nat.reduceAdd, Nat.reduceEqDiff, Nat.reduceMul, Nat.reduceSub, Nat.reduceLeDiff, Nat.reduceLT, Int.reduceToNat, Int.reduceLE, Int.reduceLT, Int.reduceEq, UInt8.reduceOfNat]
  by_cases h12 : k = 12
  · subst h12; simp only [go_sem, ↓reduceIte, reduceCtorEq, upd_ne, back_new (no_at), Nat.reduceAdd, Nat.reduceEqDiff, Nat.reduceMul, Nat.reduceSub, Nat.reduceLeDiff, Nat.reduceLT, Int.reduceToNat, Int.reduceLE, Int.reduceLT, Int.reduceEq, UInt8.reduceOfNat]
  simp only [go_sem, ↓reduceIte, reduceCtorEq, upd_ne, back_new (no_at), Nat.reduceAdd, Nat.reduceEqDiff, Nat.reduceMul, Nat.reduceSub, Nat.reduceLeDiff, Nat.reduceLT, Int.reduceToNat, Int.reduceLE, Int.reduceLT, Int.reduceEq, UInt8.reduceOfNat, h3, h4, h5, h11, h12]
theorem ev_beginning (s : List UInt8) (head : Nat) (room : Int) (hs : s.length ≤ 140737488351232) (hh : head ≤ 1000000) :
    S.ev (n + 1) id_fault_beginning [.str s, .int .i64 (head : Int), .int .i64 room] none = some (.tup [.str (s.take (begN s.length head room)), .bool (begO s.length head room)], none) := by
  rw [Sys.step hS.h_fault_beginning, F_fault_beginning_eq]
  unfold F_fault_beginning begN begO
  have m1 : (if room < (s.length : Int) then room else (s.length : Int)) = min (s.length : Int) room := by split <;> omega
  have m2 : (if min (s.length : Int) room < 0 then 0 else min (s.length : Int) room) = ((min (s.length : Int) room).toNat : Int) := by split <;> omega
  have e1 : IntKind.i64.wrap ((head : Int) + 8) = ((head + 8 : Nat) : Int) := by rw [wrap_id (by omega) (by omega)]; omega
  have m3 : (if (s.length : Int) < ((head + 8 : Nat) : Int) then (s.length : Int) else ((head + 8 : Nat) : Int)) = ((min (head + 8) s.length : Nat) : Int) := by split <;> omega
  have c1 : (min (s.length : Int) room).toNat ≤ s.length := by omega
  (try simp only [guard_merge, or_merge, and_merge, or_pick, and_pick, guard_or, guard_and]); simp only [to_ob]
  simp only [go_sem, ↓reduceIte, reduceCtorEq, upd_ne, back_new (no_at), Nat.reduceAdd, Nat.reduceEqDiff, Nat.reduceMul, Nat.reduceSub, Nat.reduceLeDiff, Nat.reduceLT, Int.reduceToNat, Int.reduceLE, Int.reduceLT, Int.reduceEq, UInt8.reduceOfNat, List.getElem?_map, Int.toNat_natCast, pMinmax, pMinmax2, Option.bind_some, Bool.false_eq_true, if_true, m1, m2, m3, e1, c1, Nat.sub_zero, List.drop_zero]
theorem ev_gram (k : Nat) (hk : k ≤ 5000) : S.ev (n + 2) id_interpreterlaw15_gram [.int .i64 (k : Int)] none = some (ip4LV 0 0 9 17 0 false false [192, 0, 2, 1] [192, 0, 2, 2] [] (List.replicate k 120), none) := by
  rw [Sys.step hS.h_interpreterlaw15_gram, F_interpreterlaw15_gram_eq]
  unfold F_interpreterlaw15_gram
  have hr : S.ev (n + 1) id_strings_Repeat [.str [120], .int .i64 (k : Int)] none = some (.str (repL [120] k), none) := hS.x_rep.ev n (by omega) (by simp; omega)
  rw [repL_eq] at hr
  (try simp only [guard_merge, or_merge, and_merge, or_pick, and_pick, guard_or, guard_and]); simp only [to_ob]
  simp only [go_sem, ↓reduceIte, reduceCtorEq, upd_ne, back_new (no_at), Nat.reduceAdd, Nat.reduceEqDiff, Nat.reduceMul, Nat.reduceSub, Nat.reduceLeDiff, Nat.reduceLT, Int.reduceToNat, Int.reduceLE, Int.reduceLT, Int.reduceEq, UInt8.reduceOfNat, hr]
theorem ev_martian4 (a b c d : UInt8) : S.ev (n + 1) id_class_Martian4 [.bytes [a, b, c, d]] none = some (.bool (decide (a.toNat = 0 ∨ a.toNat = 127 ∨ 224 ≤ a.toNat ∨ (a.toNat = 169 ∧ b.toNat = 254))), none) := by
  rw [Sys.step hS.h_class_Martian4, F_class_Martian4_eq]
  unfold F_class_Martian4
  (try simp only [guard_merge, or_merge, and_merge, or_pick, and_pick, guard_or, guard_and]); simp only [to_ob]
  by_cases h1 : (a.toNat : Int) = 0 <;> by_cases h2 : (a.toNat : Int) = 127 <;> by_cases h3 : (224 : Int) ≤ (a.toNat : Int) <;> by_cases h4 : (a.toNat : Int) = 169 <;> by_cases h5 : (b.toNat : Int) = 254 <;>
    first
    | (exfalso; omega)
    | (rw [decide_eq_true (p := a.toNat = 0 ∨ a.toNat = 127 ∨ 224 ≤ a.toNat ∨ (a.toNat = 169 ∧ b.toNat = 254)) (by omega)]; simp only [go_sem, ↓reduceIte, reduceCtorEq, upd_ne, back_new (no_at), Nat.reduceAdd, Nat.reduceEqDiff, Nat.reduceMul, Nat.reduceSub, Nat.reduceLeDiff, Nat.reduceLT, Int.reduceToNat, Int.reduceLE, Int.reduceLT, Int.reduceEq, UInt8.reduceOfNat, byteLV, h1, h2, h3, h4, h5, List.length_cons, List.length_nil, List.getElem?_cons_zero, List.getElem?_cons_succ])
    | (rw [decide_eq_false (p := a.toNat = 0 ∨ a.toNat = 127 ∨ 224 ≤ a.toNat ∨ (a.toNat = 169 ∧ b.toNat = 254)) (by omega)]; simp only [go_sem, ↓reduceIte, reduceCtorEq, upd_ne, back_new (no_at), Nat.reduceAdd, Nat.reduceEqDiff, Nat.reduceMul, Nat.reduceSub, Nat.reduceLeDiff, Nat.reduceLT, Int.reduceToNat, Int.reduceLE, Int.reduceLT, Int.reduceEq, UInt8.reduceOfNat, byteLV, h1, h2, h3, h4, h5, List.length_cons, List.length_nil, List.getElem?_cons_zero, List.getElem?_cons_succ])
theorem ev_icmp4B {k c r : Int} {d : List UInt8} (hk : 0 ≤ k ∧ k ≤ 255) (hc : 0 ≤ c ∧ c ≤ 255) (hr : 0 ≤ r ∧ r < 4294967296) (hd : d.length ≤ 100000) :
    S.ev (n + 3) id_icmp4_Bytes [msgLV k c r d] none = some (.tup [.str (im4B k c r d), .nili], none) := by
  rw [Sys.step hS.h_icmp4_Bytes, F_icmp4_Bytes_eq]
  unfold F_icmp4_Bytes
  have hx := sumS_le (beB 1 k.toNat ++ (beB 1 c.toNat ++ (0 :: 0 :: (beB 4 r.toNat ++ d))))
  have b1 : S.ev (n + 2) id_num_Big [.int .i64 k, .int .i64 1] none = some (bigR k 1, none) := ev_Big hS (n + 1) k 1 (by omega) ⟨by omega, by omega⟩
  have b2 : S.ev (n + 2) id_num_Big [.int .i64 c, .int .i64 1] none = some (bigR c 1, none) := ev_Big hS (n + 1) c 1 (by omega) ⟨by omega, by omega⟩
  have b3 : S.ev (n + 2) id_num_Big [.int .i64 r, .int .i64 4] none = some (bigR r 4, none) := ev_Big hS (n + 1) r 4 (by omega) ⟨by omega, by omega⟩
  have b4 : S.ev (n + 2) id_num_Big [.int .i64 (im4S k c r d), .int .i64 2] none = some (bigR (im4S k c r d) 2, none) := ev_Big hS (n + 1) _ 2 (by omega) ⟨by unfold im4S; omega, by unfold im4S; omega⟩
  have ho := ev_Of hS n [beB 1 k.toNat, beB 1 c.toNat, [0, 0], beB 4 r.toNat, d] (by simp) (by simp [beB_len]; omega)
  unfold bigR at b1 b2 b3 b4
  rw [if_pos (by omega)] at b1 b2
  rw [if_pos (by omega)] at b3
  rw [if_pos (by unfold im4S; omega)] at b4
  have e1 : IntKind.i64.wrap r = r := wrap_id (by omega) (by omega)
  simp only [List.map_cons, List.map_nil, List.flatten_cons, List.flatten_nil, List.append_nil, List.cons_append, List.nil_append] at ho
  have ho : S.ev (n + 2) id_sum_Of [.lst none [.str (beB 1 k.toNat), .str (beB 1 c.toNat), .str [0, 0], .str (beB 4 r.toNat), .str d]] none = some (.int .i64 (im4S k c r d), none) := ho
  have hl := beB_len
  (try simp only [guard_merge, or_merge, and_merge, or_pick, and_pick, guard_or, guard_and]); simp only [to_ob]
  unfold im4B
  simp only [go_sem, ↓reduceIte, reduceCtorEq, upd_ne, back_new (no_at), Nat.reduceAdd, Nat.reduceEqDiff, Nat.reduceMul, Nat.reduceSub, Nat.reduceLeDiff, Nat.reduceLT, Int.reduceToNat, Int.reduceLE, Int.reduceLT, Int.reduceEq, UInt8.reduceOfNat, b1, b2, b3, b4, ho, e1, hl, List.append_assoc, List.length_append]
  repeat rw [if_pos (by unfold maxStr; omega)]
end
end Go.Ev

namespace Go.Ev
set_option linter.unusedSimpArgs false
set_option linter.unusedVariables false
set_option maxRecDepth 10000
set_option maxHeartbeats 8000000
theorem fit_msg {v : LV} (h : fitV (.agg [.int .i64, .int .i64, .int .u32, .str]) v) : ∃ k c r d, v = msgLV k c r d ∧ I64 k ∧ I64 c ∧ (0 ≤ r ∧ r < 4294967296) ∧ d.length ≤ 140737488351232 := by
  obtain ⟨vs, rfl, q0⟩ := fit_agg' h; clear h
  obtain ⟨a, r, e, g1, q1⟩ := fit_cons q0; clear q0; subst e; obtain ⟨k, rfl, h1⟩ := fit_i64 g1; clear g1
  obtain ⟨a, r, e, g2, q2⟩ := fit_cons q1; clear q1; subst e; obtain ⟨c, rfl, h2⟩ := fit_i64 g2; clear g2
  obtain ⟨a, r, e, g3, q3⟩ := fit_cons q2; clear q2; subst e; obtain ⟨x, rfl, h3⟩ := fit_u32 g3; clear g3
  obtain ⟨a, r, e, g4, q4⟩ := fit_cons q3; clear q3; subst e; obtain ⟨d, rfl, h4⟩ := fit_str g4; clear g4
  obtain rfl := fit_nil q4
  exact ⟨k, c, x, d, rfl, h1, h2, by omega, h4⟩
theorem fit_t {m : Nat} {v : LV} (h : fitV (.agg [.bytes m, .int .i64]) v) : ∃ a p, v = .agg [.bytes a, .int .i64 p] ∧ a.length = m ∧ I64 p := by
  obtain ⟨vs, rfl, q0⟩ := fit_agg' h; clear h
  obtain ⟨a, r, e, g1, q1⟩ := fit_cons q0; clear q0; subst e; obtain ⟨a, rfl, h1⟩ := fit_bytes g1; clear g1
  obtain ⟨x, r, e, g2, q2⟩ := fit_cons q1; clear q1; subst e; obtain ⟨p, rfl, h2⟩ := fit_i64 g2; clear g2
  obtain rfl := fit_nil q2
  exact ⟨a, p, rfl, h1, h2⟩
end Go.Ev

namespace Go.Ev
set_option linter.unusedSimpArgs false
set_option linter.unusedVariables false
set_option maxRecDepth 4000
set_option maxHeartbeats 1000000
def turn (u : UInt8) (s : List UInt8) : List UInt8 := s.map (· ^^^ u)
theorem turn_len (u : UInt8) (s : List UInt8) : (turn u s).length = s.length := by simp [turn]
theorem turn_get {u : UInt8} {s : List UInt8} {i : Nat} {c : UInt8} (h : s[i]? = some c) : (turn u s)[i]? = some (c ^^^ u) := by simp [turn, h]
theorem not_tab : ∀ c : Fin 256, c.val ^^^ 255 = 255 - c.val := by decide +kernel
theorem turn_sum : ∀ (s : List UInt8), s.length % 2 = 0 → sumAt 0 (turn 255 s) + sumAt 0 s = 65535 * (s.length / 2)
  | [], _ => rfl
  | [_], h => by simp at h
  | a :: b :: s, h => by
    have hi := turn_sum s (by simp at h; omega)
    have h1 : (a ^^^ 255).toNat = 255 - a.toNat := by rw [UInt8.toNat_xor]; exact not_tab ⟨a.toNat, a.toNat_lt⟩
    have h2 : (b ^^^ 255).toNat = 255 - b.toNat := by rw [UInt8.toNat_xor]; exact not_tab ⟨b.toNat, b.toNat_lt⟩
    have ha := a.toNat_lt
    have hb := b.toNat_lt
    have e : turn 255 (a :: b :: s) = (a ^^^ 255) :: (b ^^^ 255) :: turn 255 s := rfl
    rw [e]
    simp only [sumAt, sumAt_two, h1, h2, List.length_cons]
    simp
    omega
section
variable {S : Sys} (hS : Has S) (n : Nat)
include hS
theorem ev_addT (u : UInt8) (m p : Nat) (s : List UInt8) (hb : m + 65280 * s.length ≤ 9223372036854775807) (hp : p + s.length ≤ 9223372036854775806) :
    S.ev (n + 1) id_sum_add [.int .i64 (m : Int), .int .i64 (p : Int), .str s, .int .u8 (u.toNat : Int)] none = some (.int .i64 (m + sumAt p (turn u s) : Nat), none) := by
  rw [Sys.step hS.h_sum_add, F_sum_add_eq]
  unfold F_sum_add
  (try simp only [guard_merge, or_merge, and_merge, or_pick, and_pick, guard_or, guard_and]); simp only [to_ob]
  simp only [go_sem, ↓reduceIte, reduceCtorEq, upd_ne, back_new (no_at), Nat.reduceAdd, Nat.reduceEqDiff, Nat.reduceMul, Nat.reduceSub, Nat.reduceLeDiff, Nat.reduceLT, Int.reduceToNat, Int.reduceLE, Int.reduceLT, Int.reduceEq, UInt8.reduceOfNat]
  refine while_rule (fun k q => ∃ x i : Nat, q = ([.int .i64 (x : Int), .int .i64 (i : Int)], noSlots) ∧ i + k = s.length ∧ x + sumAt (p + i) ((turn u s).drop i) = m + sumAt p (turn u s)) s.length ⟨m, 0, rfl, by simp, by simp⟩ ?_
  rintro k q ⟨x, i, rfl, hi, hx⟩
  have hle := sumAt_le (turn u s) p
  rw [turn_len] at hle
  have hul := u.toNat_lt
  simp only [go_sem, ↓reduceIte, reduceCtorEq, upd_ne, back_new (no_at), Nat.reduceAdd, Nat.reduceEqDiff, Nat.reduceMul, Nat.reduceSub, Nat.reduceLeDiff, Nat.reduceLT, Int.reduceToNat, Int.reduceLE, Int.reduceLT, Int.reduceEq, UInt8.reduceOfNat]
  refine nxt_ite (fun h => ?_) (fun h => ?_)
  · have hlt : i < s.length := by omega
    obtain ⟨c, hc⟩ : ∃ c, s[i]? = some c := ⟨s[i], by simp [hlt]⟩
    have htc := turn_get (u := u) hc
    have hlt2 : i < (turn u s).length := by rw [turn_len]; exact hlt
    have hd : (turn u s).drop i = (c ^^^ u) :: (turn u s).drop (i + 1) := by
      rw [List.drop_eq_getElem_cons hlt2]; congr 1; simpa [hlt2] using htc
    have hcl := c.toNat_lt
    have hcu := (c ^^^ u).toNat_lt
    rw [hd] at hx
    simp only [sumAt] at hx
    have e0 : bitsOf .xor .u8 (c.toNat : Int) (u.toNat : Int) = ((c ^^^ u).toNat : Int) := by
      rw [bits_xor_nat (by simp [IntKind.max, IntKind.signed, IntKind.bits]; omega) (by simp [IntKind.max, IntKind.signed, IntKind.bits]; omega), UInt8.toNat_xor]
    generalize (c ^^^ u) = d at *
    have e1 : IntKind.i64.wrap (d.toNat : Int) = (d.toNat : Int) := wrap_id (by omega) (by omega)
    have e2 : IntKind.i64.wrap ((p : Int) + (i : Int)) = ((p + i : Nat) : Int) := by rw [wrap_id (by omega) (by omega)]; omega
    have e3 : Int.tmod ((p + i : Nat) : Int) 2 = (((p + i) % 2 : Nat) : Int) := by
      rw [Int.tmod_eq_emod_of_nonneg (by omega)]; omega
    have e4 : IntKind.i64.wrap ((d.toNat : Int) * 2 ^ min 8 64) = ((d.toNat * 256 : Nat) : Int) := by
      rw [show min 8 64 = 8 from rfl, wrap_id (by omega) (by omega)]; omega
    have e6 : IntKind.i64.wrap ((i : Int) + 1) = ((i + 1 : Nat) : Int) := by rw [wrap_id (by omega) (by omega)]; omega
    simp only [go_sem, ↓reduceIte, reduceCtorEq, upd_ne, back_new (no_at), Nat.reduceAdd, Nat.reduceEqDiff, Nat.reduceMul, Nat.reduceSub, Nat.reduceLeDiff, Nat.reduceLT, Int.reduceToNat, Int.reduceLE, Int.reduceLT, Int.reduceEq, UInt8.reduceOfNat, List.getElem?_map, Int.toNat_natCast, hc, e0, e1, e2, e3, e4, e6]
    by_cases hpar : (p + i) % 2 = 0
    · rw [if_pos hpar] at hx
      have e5 : IntKind.i64.wrap ((x : Int) + ((d.toNat * 256 : Nat) : Int)) = ((x + d.toNat * 256 : Nat) : Int) := by
        rw [wrap_id (by omega) (by omega)]; omega
      have hq : (((p + i) % 2 : Nat) : Int) = 0 := by omega
      simp only [go_sem, ↓reduceIte, reduceCtorEq, upd_ne, back_new (no_at), Nat.reduceAdd, Nat.reduceEqDiff, Nat.reduceMul, Nat.reduceSub, Nat.reduceLeDiff, Nat.reduceLT, Int.reduceToNat, Int.reduceLE, Int.reduceLT, Int.reduceEq, UInt8.reduceOfNat, hq, e5]
      exact ⟨k - 1, by omega, _, i + 1, rfl, by omega, by rw [show p + (i + 1) = p + i + 1 by omega]; omega⟩
    · rw [if_neg hpar] at hx
      have e5 : IntKind.i64.wrap ((x : Int) + (d.toNat : Int)) = ((x + d.toNat : Nat) : Int) := by
        rw [wrap_id (by omega) (by omega)]; omega
      have hq : ¬ (((p + i) % 2 : Nat) : Int) = 0 := by omega
      simp only [go_sem, ↓reduceIte, reduceCtorEq, upd_ne, back_new (no_at), Nat.reduceAdd, Nat.reduceEqDiff, Nat.reduceMul, Nat.reduceSub, Nat.reduceLeDiff, Nat.reduceLT, Int.reduceToNat, Int.reduceLE, Int.reduceLT, Int.reduceEq, UInt8.reduceOfNat, hq, e5]
      exact ⟨k - 1, by omega, _, i + 1, rfl, by omega, by rw [show p + (i + 1) = p + i + 1 by omega]; omega⟩
  · rw [List.drop_eq_nil_of_le (by rw [turn_len]; omega)] at hx
    simp only [sumAt, Nat.add_zero] at hx
    simp only [go_sem, ↓reduceIte, reduceCtorEq, upd_ne, back_new (no_at), Nat.reduceAdd, Nat.reduceEqDiff, Nat.reduceMul, Nat.reduceSub, Nat.reduceLeDiff, Nat.reduceLT, Int.reduceToNat, Int.reduceLE, Int.reduceLT, Int.reduceEq, UInt8.reduceOfNat, Nxt, exIf, hx]
theorem ev_even (s : List UInt8) (h : s.length % 2 = 0) : S.ev (n + 1) id_sum_even [.str s] none = some (.str s, none) := by
  rw [Sys.step hS.h_sum_even, F_sum_even_eq]
  unfold F_sum_even
  have e1 : Int.tmod (s.length : Int) 2 = ((s.length % 2 : Nat) : Int) := rfl
  have e2 : ¬ ((s.length % 2 : Nat) : Int) = 1 := by omega
  (try simp only [guard_merge, or_merge, and_merge, or_pick, and_pick, guard_or, guard_and]); simp only [to_ob]
  simp only [go_sem, ↓reduceIte, reduceCtorEq, upd_ne, back_new (no_at), Nat.reduceAdd, Nat.reduceEqDiff, Nat.reduceMul, Nat.reduceSub, Nat.reduceLeDiff, Nat.reduceLT, Int.reduceToNat, Int.reduceLE, Int.reduceLT, Int.reduceEq, UInt8.reduceOfNat, e1, e2]
theorem ev_Update (x : Nat) (o w : List UInt8) (hx : x ≤ 65535) (ho : o.length % 2 = 0) (h1 : o.length ≤ 1000000) (h2 : w.length ≤ 1000000) :
    S.ev (n + 2) id_sum_Update [.int .i64 (x : Int), .str o, .str w] none = some (.int .i64 (65535 - (ones (ones (65535 - x + sumAt 0 (turn 255 o)) + sumAt 0 w) : Nat)), none) := by
  rw [Sys.step hS.h_sum_Update, F_sum_Update_eq]
  unfold F_sum_Update
  have l1 := sumAt_le (turn 255 o) 0
  rw [turn_len] at l1
  have l2 := sumAt_le w 0
  have l3 := ones_le (65535 - x + sumAt 0 (turn 255 o))
  have l4 := ones_le (ones (65535 - x + sumAt 0 (turn 255 o)) + sumAt 0 w)
  have a1 := ev_even hS n o ho
  have a2 : S.ev (n + 1) id_sum_add [.int .i64 ((65535 - x : Nat) : Int), .int .i64 0, .str o, .int .u8 255] none = some (.int .i64 (65535 - x + sumAt 0 (turn 255 o) : Nat), none) := ev_addT hS n 255 (65535 - x) 0 o (by omega) (by omega)
  have a3 := ev_fold hS n (65535 - x + sumAt 0 (turn 255 o)) (by omega)
  have a4 : S.ev (n + 1) id_sum_add [.int .i64 (ones (65535 - x + sumAt 0 (turn 255 o)) : Nat), .int .i64 0, .str w, .int .u8 0] none = some (.int .i64 (ones (65535 - x + sumAt 0 (turn 255 o)) + sumAt 0 w : Nat), none) := ev_add hS n _ 0 w (by omega) (by omega)
  have a5 := ev_fold hS n (ones (65535 - x + sumAt 0 (turn 255 o)) + sumAt 0 w) (by omega)
  have e1 : bitsOf .and .i64 (x : Int) 65535 = (x : Int) := by
    rw [show (65535 : Int) = ((2 ^ 16 - 1 : Nat) : Int) from rfl, bits_mask 16 (by omega) (by simp [IntKind.max, IntKind.signed, IntKind.bits]; omega) (by decide)]
    show (x : Int) % ((65536 : Nat) : Int) = x
    omega
  have e2 : IntKind.i64.wrap (65535 - (x : Int)) = ((65535 - x : Nat) : Int) := by rw [wrap_id (by omega) (by omega)]; omega
  have e3 : IntKind.i64.wrap (65535 - ((ones (ones (65535 - x + sumAt 0 (turn 255 o)) + sumAt 0 w) : Nat) : Int)) = 65535 - ((ones (ones (65535 - x + sumAt 0 (turn 255 o)) + sumAt 0 w) : Nat) : Int) := wrap_id (by omega) (by omega)
  (try simp only [guard_merge, or_merge, and_merge, or_pick, and_pick, guard_or, guard_and]); simp only [to_ob]
  simp only [go_sem, ↓reduceIte, reduceCtorEq, upd_ne, back_new (no_at), Nat.reduceAdd, Nat.reduceEqDiff, Nat.reduceMul, Nat.reduceSub, Nat.reduceLeDiff, Nat.reduceLT, Int.reduceToNat, Int.reduceLE, Int.reduceLT, Int.reduceEq, UInt8.reduceOfNat, a1, a2, a3, a4, a5, e1, e2, e3]
end
end Go.Ev

namespace Go.Ev
set_option linter.unusedSimpArgs false
set_option linter.unusedVariables false
set_option maxRecDepth 10000
set_option maxHeartbeats 8000000
def updN (x : Nat) (o w : List UInt8) : Nat := 65535 - ones (ones (65535 - x + sumAt 0 (turn 255 o)) + sumAt 0 w)
def upY (x : Nat) (o w : List UInt8) (none : Bool) : Nat := if none = true ∧ updN x o w = 0 then 65535 else updN x o w
def upF (d : List UInt8) (i : Nat) (o w : List UInt8) (none : Bool) : List UInt8 :=
  if d.length < i + 2 then d else if none = true ∧ wAt d i = 0 then d else d.take i ++ (beB 2 (upY (wAt d i) o w none) ++ d.drop (i + 2))
def poF (udp : Bool) (d o w : List UInt8) (p q : Nat) : List UInt8 :=
  if d.length < 4 then d else if udp = true then upF (beB 2 p ++ (beB 2 q ++ d.drop 4)) 6 (o ++ d.take 4) (w ++ (beB 2 p ++ beB 2 q)) true else upF (beB 2 p ++ (beB 2 q ++ d.drop 4)) 16 (o ++ d.take 4) (w ++ (beB 2 p ++ beB 2 q)) false
section
variable {S : Sys} (hS : Has S) (n : Nat)
include hS
theorem ev_upd (d : List UInt8) (i : Nat) (o w : List UInt8) (none : Bool) (hd : d.length ≤ 1000000) (hi : i ≤ 1000) (ho : o.length % 2 = 0) (h1 : o.length ≤ 1000000) (h2 : w.length ≤ 1000000) :
    S.ev (n + 3) id_fault_update [.str d, .int .i64 (i : Int), .str o, .str w, .bool none] Option.none = some (.str (upF d i o w none), Option.none) := by
  rw [Sys.step hS.h_fault_update, F_fault_update_eq]
  unfold F_fault_update
  have e1 : IntKind.i64.wrap ((i : Int) + 2) = ((i + 2 : Nat) : Int) := by rw [wrap_id (by omega) (by omega)]; omega
  (try simp only [guard_merge, or_merge, and_merge, or_pick, and_pick, guard_or, guard_and]); simp only [to_ob]
  unfold upF
  by_cases c1 : d.length < i + 2
  · have c1' : (d.length : Int) < ((i + 2 : Nat) : Int) := by omega
    simp only [go_sem, ↓reduceIte, reduceCtorEq, upd_ne, back_new (no_at), Nat.reduceAdd, Nat.reduceEqDiff, Nat.reduceMul, Nat.reduceSub, Nat.reduceLeDiff, Nat.reduceLT, Int.reduceToNat, Int.reduceLE, Int.reduceLT, Int.reduceEq, UInt8.reduceOfNat, c1, c1', e1]
  · have c1' : ¬ (d.length : Int) < ((i + 2 : Nat) : Int) := by omega
    have ga := get_def (s := d) (i := i) (by omega)
    have gb := get_def (s := d) (i := i + 1) (by omega)
    have hal := (d.getD i 0).toNat_lt
    have hbl := (d.getD (i + 1) 0).toNat_lt
    have f1 : IntKind.i64.wrap ((d.getD i 0).toNat : Int) = ((d.getD i 0).toNat : Int) := wrap_id (by omega) (by omega)
    have f2 : IntKind.i64.wrap ((d.getD (i + 1) 0).toNat : Int) = ((d.getD (i + 1) 0).toNat : Int) := wrap_id (by omega) (by omega)
    have f3 : IntKind.i64.wrap ((i : Int) + 1) = ((i + 1 : Nat) : Int) := by rw [wrap_id (by omega) (by omega)]; omega
    have f4 : IntKind.i64.wrap (((d.getD i 0).toNat : Int) * 2 ^ min 8 64) = (((d.getD i 0).toNat * 256 : Nat) : Int) := by
      rw [show min 8 64 = 8 from rfl, wrap_id (by omega) (by omega)]; omega
    have f5 : bitsOf .or .i64 ((((d.getD i 0).toNat * 256 : Nat)) : Int) ((d.getD (i + 1) 0).toNat : Int) = ((wAt d i : Nat) : Int) := w16_or _ _
    have hw := wAt_le d i
    have hu := ev_Update hS n (wAt d i) o w hw ho h1 h2
    have hon := ones_le (ones (65535 - wAt d i + sumAt 0 (turn 255 o)) + sumAt 0 w)
    have hu : S.ev (n + 2) id_sum_Update [.int .i64 ((wAt d i : Nat) : Int), .str o, .str w] Option.none = some (.int .i64 ((updN (wAt d i) o w : Nat) : Int), Option.none) := by
      rw [hu]; unfold updN; congr 3; omega
    have hul : updN (wAt d i) o w ≤ 65535 := by unfold updN; omega
    have g1 : S.ev (n + 2) id_fault_big [.int .i64 ((updN (wAt d i) o w : Nat) : Int), .int .i64 2] Option.none = some (.str (beB 2 (updN (wAt d i) o w)), Option.none) := ev_bigF hS n _ 2 (by omega) (lt2 (by omega) (by omega)) ⟨by omega, by omega⟩
    have g2 : S.ev (n + 2) id_fault_big [.int .i64 65535, .int .i64 2] Option.none = some (.str (beB 2 65535), Option.none) := ev_bigF hS n 65535 2 (by omega) (lt2 (by omega) (by omega)) ⟨by omega, by omega⟩
    have l1 : i ≤ d.length := by omega
    have l2 : i + 2 ≤ d.length := by omega
    have t1 : (d.drop (i + 2)).take (d.length - (i + 2)) = d.drop (i + 2) := List.take_of_length_le (by simp)
    have hl := beB_len
    have m1 : ∀ y, i ≤ 2000 → i + y ≤ 2000000 → i + y ≤ maxStr := fun y _ h => by unfold maxStr; omega
    have hlt : (d.take i).length = i := by rw [List.length_take]; omega
    unfold upY
    generalize hU : updN (wAt d i) o w = U at *
    have x1 : i + 2 ≤ maxStr := by unfold maxStr; omega
    have x2 : i + 2 + (d.length - (i + 2)) ≤ maxStr := by unfold maxStr; omega
    cases none
    · simp only [go_sem, ↓reduceIte, reduceCtorEq, upd_ne, back_new (no_at), Nat.reduceAdd, Nat.reduceEqDiff, Nat.reduceMul, Nat.reduceSub, Nat.reduceLeDiff, Nat.reduceLT, Int.reduceToNat, Int.reduceLE, Int.reduceLT, Int.reduceEq, UInt8.reduceOfNat, List.getElem?_map, Int.toNat_natCast, c1, c1', e1, ga, gb, byteLV, f1, f2, f3, f4, f5, hu, g1, l1, l2, t1, hl, hlt, x1, x2, List.length_append, List.length_drop, List.append_assoc, Nat.sub_zero, List.drop_zero, false_and, Bool.false_eq_true]
    · by_cases c2 : wAt d i = 0
      · have c2' : ((wAt d i : Nat) : Int) = 0 := by omega
        simp only [go_sem, ↓reduceIte, reduceCtorEq, upd_ne, back_new (no_at), Nat.reduceAdd, Nat.reduceEqDiff, Nat.reduceMul, Nat.reduceSub, Nat.reduceLeDiff, Nat.reduceLT, Int.reduceToNat, Int.reduceLE, Int.reduceLT, Int.reduceEq, UInt8.reduceOfNat, List.getElem?_map, Int.toNat_natCast, c1, c1', e1, ga, gb, byteLV, f1, f2, f3, f4, f5, c2, c2', true_and]
      · have c2' : ¬ ((wAt d i : Nat) : Int) = 0 := by omega
        by_cases c3 : U = 0
        · have c3' : ((U : Nat) : Int) = 0 := by omega
          simp only [go_sem, ↓reduceIte, reduceCtorEq, upd_ne, back_new (no_at), Nat.reduceAdd, Nat.reduceEqDiff, Nat.reduceMul, Nat.reduceSub, Nat.reduceLeDiff, Nat.reduceLT, Int.reduceToNat, Int.reduceLE, Int.reduceLT, Int.reduceEq, UInt8.reduceOfNat, List.getElem?_map, Int.toNat_natCast, c1, c1', e1, ga, gb, byteLV, f1, f2, f3, f4, f5, c2, c2', c3, c3', hu, g2, l1, l2, t1, hl, hlt, x1, x2, List.length_append, List.length_drop, List.append_assoc, Nat.sub_zero, List.drop_zero, true_and]
        · have c3' : ¬ ((U : Nat) : Int) = 0 := by omega
          simp only [go_sem, ↓reduceIte, reduceCtorEq, upd_ne, back_new (no_at), Nat.reduceAdd, Nat.reduceEqDiff, Nat.reduceMul, Nat.reduceSub, Nat.reduceLeDiff, Nat.reduceLT, Int.reduceToNat, Int.reduceLE, Int.reduceLT, Int.reduceEq, UInt8.reduceOfNat, List.getElem?_map, Int.toNat_natCast, c1, c1', e1, ga, gb, byteLV, f1, f2, f3, f4, f5, c2, c2', c3, c3', hu, g1, l1, l2, t1, hl, hlt, x1, x2, List.length_append, List.length_drop, List.append_assoc, Nat.sub_zero, List.drop_zero, true_and]
end
end Go.Ev

namespace Go.Ev
set_option linter.unusedSimpArgs false
set_option linter.unusedVariables false
set_option maxRecDepth 10000
set_option maxHeartbeats 8000000
theorem upF_len {d : List UInt8} {i : Nat} {o w : List UInt8} {none : Bool} : (upF d i o w none).length = d.length := by
  unfold upF
  split
  · rfl
  · split
    · rfl
    · simp only [List.length_append, beB_len, List.length_take, List.length_drop]; omega
theorem poF_len {udp : Bool} {d o w : List UInt8} {p q : Nat} : (poF udp d o w p q).length = d.length := by
  unfold poF
  split
  · rfl
  · split
    · rw [upF_len]; simp only [List.length_append, beB_len, List.length_drop]; omega
    · rw [upF_len]; simp only [List.length_append, beB_len, List.length_drop]; omega
section
variable {S : Sys} (hS : Has S) (n : Nat)
include hS
theorem ev_ported (pt : Int) (d o w : List UInt8) (p q : Nat) (hd : d.length ≤ 900000) (ho : o.length % 2 = 0) (h1 : o.length ≤ 1000) (h2 : w.length ≤ 1000) (hp : p ≤ 65535) (hq : q ≤ 65535) :
    S.ev (n + 4) id_fault_ported [.int .i64 pt, .str d, .str o, .str w, .int .i64 (p : Int), .int .i64 (q : Int)] none = some (.str (poF (decide (pt = 17)) d o w p q), none) := by
  rw [Sys.step hS.h_fault_ported, F_fault_ported_eq]
  unfold F_fault_ported
  (try simp only [guard_merge, or_merge, and_merge, or_pick, and_pick, guard_or, guard_and]); simp only [to_ob]
  unfold poF
  by_cases c1 : d.length < 4
  · have c1' : (d.length : Int) < 4 := by omega
    simp only [go_sem, ↓reduceIte, reduceCtorEq, upd_ne, back_new (no_at), Nat.reduceAdd, Nat.reduceEqDiff, Nat.reduceMul, Nat.reduceSub, Nat.reduceLeDiff, Nat.reduceLT, Int.reduceToNat, Int.reduceLE, Int.reduceLT, Int.reduceEq, UInt8.reduceOfNat, c1, c1']
  · have c1' : ¬ (d.length : Int) < 4 := by omega
    have g1 : S.ev (n + 3) id_fault_big [.int .i64 (p : Int), .int .i64 2] none = some (.str (beB 2 p), none) := ev_bigF hS (n + 1) p 2 (by omega) (lt2 (by omega) (by omega)) ⟨by omega, by omega⟩
    have g2 : S.ev (n + 3) id_fault_big [.int .i64 (q : Int), .int .i64 2] none = some (.str (beB 2 q), none) := ev_bigF hS (n + 1) q 2 (by omega) (lt2 (by omega) (by omega)) ⟨by omega, by omega⟩
    have hl := beB_len
    have l1 : 4 ≤ d.length := by omega
    have t1 : (d.drop 4).take (d.length - 4) = d.drop 4 := List.take_of_length_le (by simp)
    have hl4 : (d.take 4).length = 4 := by rw [List.length_take]; omega
    have x1 : 2 + 2 ≤ maxStr := by decide
    have x2 : 4 + (d.length - 4) ≤ maxStr := by unfold maxStr; omega
    have x3 : o.length + 4 ≤ maxStr := by unfold maxStr; omega
    have x4 : w.length + 4 ≤ maxStr := by unfold maxStr; omega
    have u1 := ev_upd hS n (beB 2 p ++ (beB 2 q ++ d.drop 4)) 6 (o ++ d.take 4) (w ++ (beB 2 p ++ beB 2 q)) true (by simp only [List.length_append, beB_len, List.length_drop]; omega) (by omega) (by simp only [List.length_append, hl4]; omega) (by simp only [List.length_append, hl4]; omega) (by simp only [List.length_append, beB_len]; omega)
    have u1 : S.ev (n + 3) id_fault_update [.str (beB 2 p ++ (beB 2 q ++ d.drop 4)), .int .i64 6, .str (o ++ d.take 4), .str (w ++ (beB 2 p ++ beB 2 q)), .bool true] none = _ := u1
    have u2 := ev_upd hS n (beB 2 p ++ (beB 2 q ++ d.drop 4)) 16 (o ++ d.take 4) (w ++ (beB 2 p ++ beB 2 q)) false (by simp only [List.length_append, beB_len, List.length_drop]; omega) (by omega) (by simp only [List.length_append, hl4]; omega) (by simp only [List.length_append, hl4]; omega) (by simp only [List.length_append, beB_len]; omega)
    have u2 : S.ev (n + 3) id_fault_update [.str (beB 2 p ++ (beB 2 q ++ d.drop 4)), .int .i64 16, .str (o ++ d.take 4), .str (w ++ (beB 2 p ++ beB 2 q)), .bool false] none = _ := u2
    by_cases c2 : pt = 17
    · simp only [go_sem, ↓reduceIte, reduceCtorEq, upd_ne, back_new (no_at), Nat.reduceAdd, Nat.reduceEqDiff, Nat.reduceMul, Nat.reduceSub, Nat.reduceLeDiff, Nat.reduceLT, Int.reduceToNat, Int.reduceLE, Int.reduceLT, Int.reduceEq, UInt8.reduceOfNat, List.getElem?_map, Int.toNat_natCast, c1, c1', c2, g1, g2, u1, l1, t1, hl, hl4, x1, x2, x3, x4, List.length_append, List.length_drop, List.append_assoc, Nat.sub_zero, List.drop_zero, decide_true]
    · simp only [go_sem, ↓reduceIte, reduceCtorEq, upd_ne, back_new (no_at), Nat.reduceAdd, Nat.reduceEqDiff, Nat.reduceMul, Nat.reduceSub, Nat.reduceLeDiff, Nat.reduceLT, Int.reduceToNat, Int.reduceLE, Int.reduceLT, Int.reduceEq, UInt8.reduceOfNat, List.getElem?_map, Int.toNat_natCast, c1, c1', c2, g1, g2, u2, l1, t1, hl, hl4, x1, x2, x3, x4, List.length_append, List.length_drop, List.append_assoc, Nat.sub_zero, List.drop_zero, decide_false, Bool.false_eq_true]
theorem ev_turn6p {tos id ttl pt at' : Int} {df mo : Bool} {fr to op da a b : List UInt8} {claim : Int} {p q : Nat} (hfr : fr.length = 4) (hto : to.length = 4) (ha : a.length = 16) (hb : b.length = 16) (hat : ¬ 0 < at') (hpt : pt = 6 ∨ pt = 17) (hd : da.length ≤ 900000) (hp : p ≤ 65535) (hq : q ≤ 65535) :
    S.ev (n + 5) id_fault_turn6 [ip4LV tos id ttl pt at' df mo fr to op da, .int .i64 claim, .agg [.bytes a, .int .i64 (p : Int)], .agg [.bytes b, .int .i64 (q : Int)]] none = some (.str (poF (decide (pt = 17)) da (fr ++ to) (a ++ b) p q), none) := by
  rw [Sys.step hS.h_fault_turn6, F_fault_turn6_eq]
  unfold F_fault_turn6
  have hP := ev_ported hS n pt da (fr ++ to) (a ++ b) p q hd (by simp [hfr, hto]) (by simp [hfr, hto]) (by simp [ha, hb]) hp hq
  have x1 : 4 + 4 ≤ maxStr := by decide
  have x2 : 16 + 16 ≤ maxStr := by decide
  have t1 : fr.take 4 = fr := List.take_of_length_le (by omega)
  have t2 : to.take 4 = to := List.take_of_length_le (by omega)
  have t3 : a.take 16 = a := List.take_of_length_le (by omega)
  have t4 : b.take 16 = b := List.take_of_length_le (by omega)
  (try simp only [guard_merge, or_merge, and_merge, or_pick, and_pick, guard_or, guard_and]); simp only [to_ob]
  rcases hpt with rfl | rfl
  · simp only [go_sem, ↓reduceIte, reduceCtorEq, upd_ne, back_new (no_at), Nat.reduceAdd, Nat.reduceEqDiff, Nat.reduceMul, Nat.reduceSub, Nat.reduceLeDiff, Nat.reduceLT, Int.reduceToNat, Int.reduceLE, Int.reduceLT, Int.reduceEq, UInt8.reduceOfNat, List.getElem?_map, Int.toNat_natCast, hfr, hto, ha, hb, hat, hP, x1, x2, t1, t2, t3, t4, toBytes_byteLV, List.length_append]
  · simp only [go_sem, ↓reduceIte, reduceCtorEq, upd_ne, back_new (no_at), Nat.reduceAdd, Nat.reduceEqDiff, Nat.reduceMul, Nat.reduceSub, Nat.reduceLeDiff, Nat.reduceLT, Int.reduceToNat, Int.reduceLE, Int.reduceLT, Int.reduceEq, UInt8.reduceOfNat, List.getElem?_map, Int.toNat_natCast, hfr, hto, ha, hb, hat, hP, x1, x2, t1, t2, t3, t4, toBytes_byteLV, List.length_append]
end
end Go.Ev

namespace Go.Ev
set_option linter.unusedSimpArgs false
set_option linter.unusedVariables false
set_option maxRecDepth 10000
set_option maxHeartbeats 8000000
def ps6 (a b : List UInt8) (next len : Nat) : List UInt8 := a ++ (b ++ (beB 4 len ++ (0 :: 0 :: 0 :: beB 1 next)))
theorem ps6_len {a b : List UInt8} {x l : Nat} : (ps6 a b x l).length = a.length + b.length + 8 := by unfold ps6; simp [beB_len]; omega
def ecD (d : List UInt8) (k id : Nat) : List UInt8 := beB 1 k ++ (0 :: ((d.drop 2).take 2 ++ (beB 2 id ++ d.drop 6)))
def ecF (d o w : List UInt8) (k id : Nat) : List UInt8 := upF (ecD d k id) 2 (o ++ (d.take 2 ++ (d.drop 4).take 2)) (w ++ (beB 1 k ++ (0 :: beB 2 id))) false
theorem ecD_len {d : List UInt8} {k id : Nat} (h : 6 ≤ d.length) : (ecD d k id).length = d.length := by
  unfold ecD; simp only [List.length_append, List.length_cons, beB_len, List.length_take, List.length_drop]; omega
theorem ecF_len {d o w : List UInt8} {k id : Nat} (h : 6 ≤ d.length) : (ecF d o w k id).length = d.length := by unfold ecF; rw [upF_len, ecD_len h]
def k46 (x : Nat) : Nat := if x = 8 then 128 else 129
def isE4 (d : List UInt8) : Bool := decide (8 ≤ d.length) && (decide (bAt d 0 = 8 ∨ bAt d 0 = 0) && decide (bAt d 1 = 0))
def tn6 (pt at' : Int) (d fr to a b : List UInt8) (claim p q : Nat) : List UInt8 :=
  if 0 < at' then d else if pt = 6 ∨ pt = 17 then poF (decide (pt = 17)) d (fr ++ to) (a ++ b) p q else
  if pt = 1 ∧ isE4 d = true then ecF d [] (ps6 a b 58 claim) (k46 (bAt d 0)) p else d
theorem tn6_len {pt at' : Int} {d fr to a b : List UInt8} {claim p q : Nat} : (tn6 pt at' d fr to a b claim p q).length = d.length := by
  unfold tn6
  split
  · rfl
  · split
    · exact poF_len
    · split
      · rename_i h
        have := h.2
        unfold isE4 at this
        simp only [Bool.and_eq_true, decide_eq_true_eq] at this
        exact ecF_len (by omega)
      · rfl
section
variable {S : Sys} (hS : Has S) (n : Nat)
include hS
theorem ev_sbig (x m : Nat) (hm : m = 1 ∨ m = 2 ∨ m = 4) (hx : x < 256 ^ m) : S.ev (n + 2) id_sum_big [.int .i64 (x : Int), .int .i64 (m : Int)] none = some (.str (beB m x), none) := by
  rw [Sys.step hS.h_sum_big, F_sum_big_eq]
  unfold F_sum_big
  rcases hm with rfl | rfl | rfl
  · have h1 := ev_Big hS n (x : Int) 1 (by omega) ⟨by omega, by omega⟩
    unfold bigR at h1
    rw [if_pos ⟨by omega, by simp at hx ⊢; omega⟩, Int.toNat_natCast] at h1
    have e1 : IntKind.i64.wrap (8 * 1) = 8 := wrap_id (by omega) (by omega)
    have e2 : IntKind.i64.wrap (1 * 2 ^ min 8 64) = 256 := by rfl
    have e3 : IntKind.i64.wrap (256 - 1) = 255 := wrap_id (by omega) (by omega)
    have e4 : bitsOf .and .i64 (x : Int) 255 = (x : Int) := by
      rw [show (255 : Int) = ((2 ^ 8 - 1 : Nat) : Int) from rfl, bits_mask 8 (by omega) (show (x : Int) ≤ 9223372036854775807 by omega) (by decide)]; omega
    have h1 : S.ev (n + 1) id_num_Big [.int .i64 (x : Int), .int .i64 1] none = _ := h1
    (try simp only [guard_merge, or_merge, and_merge, or_pick, and_pick, guard_or, guard_and]); simp only [to_ob]
    simp only [go_sem, ↓reduceIte, reduceCtorEq, upd_ne, back_new (no_at), Nat.reduceAdd, Nat.reduceEqDiff, Nat.reduceMul, Nat.reduceSub, Nat.reduceLeDiff, Nat.reduceLT, Int.reduceToNat, Int.reduceLE, Int.reduceLT, Int.reduceEq, UInt8.reduceOfNat, List.getElem?_map, Int.toNat_natCast, Int.cast_ofNat_Int, Int.natCast_one, Int.ofNat_one, e1, e2, e3, e4, h1]
  · have h1 := ev_Big hS n (x : Int) 2 (by omega) ⟨by omega, by omega⟩
    unfold bigR at h1
    rw [if_pos ⟨by omega, by simp at hx ⊢; omega⟩, Int.toNat_natCast] at h1
    have e1 : IntKind.i64.wrap (8 * 2) = 16 := wrap_id (by omega) (by omega)
    have e2 : IntKind.i64.wrap (1 * 2 ^ min 16 64) = 65536 := by rfl
    have e3 : IntKind.i64.wrap (65536 - 1) = 65535 := wrap_id (by omega) (by omega)
    have e4 : bitsOf .and .i64 (x : Int) 65535 = (x : Int) := by
      rw [show (65535 : Int) = ((2 ^ 16 - 1 : Nat) : Int) from rfl, bits_mask 16 (by omega) (show (x : Int) ≤ 9223372036854775807 by omega) (by decide)]; omega
    have h1 : S.ev (n + 1) id_num_Big [.int .i64 (x : Int), .int .i64 2] none = _ := h1
    (try simp only [guard_merge, or_merge, and_merge, or_pick, and_pick, guard_or, guard_and]); simp only [to_ob]
    simp only [go_sem, ↓reduceIte, reduceCtorEq, upd_ne, back_new (no_at), Nat.reduceAdd, Nat.reduceEqDiff, Nat.reduceMul, Nat.reduceSub, Nat.reduceLeDiff, Nat.reduceLT, Int.reduceToNat, Int.reduceLE, Int.reduceLT, Int.reduceEq, UInt8.reduceOfNat, List.getElem?_map, Int.toNat_natCast, Int.cast_ofNat_Int, Int.natCast_one, Int.ofNat_one, e1, e2, e3, e4, h1]
  · have h1 := ev_Big hS n (x : Int) 4 (by omega) ⟨by omega, by omega⟩
    unfold bigR at h1
    rw [if_pos ⟨by omega, by simp at hx ⊢; omega⟩, Int.toNat_natCast] at h1
    have e1 : IntKind.i64.wrap (8 * 4) = 32 := wrap_id (by omega) (by omega)
    have e2 : IntKind.i64.wrap (1 * 2 ^ min 32 64) = 4294967296 := by rfl
    have e3 : IntKind.i64.wrap (4294967296 - 1) = 4294967295 := wrap_id (by omega) (by omega)
    have e4 : bitsOf .and .i64 (x : Int) 4294967295 = (x : Int) := by
      rw [show (4294967295 : Int) = ((2 ^ 32 - 1 : Nat) : Int) from rfl, bits_mask 32 (by omega) (show (x : Int) ≤ 9223372036854775807 by omega) (by decide)]; omega
    have h1 : S.ev (n + 1) id_num_Big [.int .i64 (x : Int), .int .i64 4] none = _ := h1
    (try simp only [guard_merge, or_merge, and_merge, or_pick, and_pick, guard_or, guard_and]); simp only [to_ob]
    simp only [go_sem, ↓reduceIte, reduceCtorEq, upd_ne, back_new (no_at), Nat.reduceAdd, Nat.reduceEqDiff, Nat.reduceMul, Nat.reduceSub, Nat.reduceLeDiff, Nat.reduceLT, Int.reduceToNat, Int.reduceLE, Int.reduceLT, Int.reduceEq, UInt8.reduceOfNat, List.getElem?_map, Int.toNat_natCast, Int.cast_ofNat_Int, Int.natCast_one, Int.ofNat_one, e1, e2, e3, e4, h1]
theorem ev_Pseudo6 (a b : List UInt8) (x l : Nat) (ha : a.length = 16) (hb : b.length = 16) (hx : x ≤ 255) (hl : l < 4294967296) :
    S.ev (n + 3) id_sum_Pseudo6 [.bytes a, .bytes b, .int .i64 (x : Int), .int .i64 (l : Int)] none = some (.str (ps6 a b x l), none) := by
  rw [Sys.step hS.h_sum_Pseudo6, F_sum_Pseudo6_eq]
  unfold F_sum_Pseudo6
  have h1 : S.ev (n + 2) id_sum_big [.int .i64 (l : Int), .int .i64 4] none = some (.str (beB 4 l), none) := ev_sbig hS n l 4 (by omega) (by simp; omega)
  have h2 : S.ev (n + 2) id_sum_big [.int .i64 (x : Int), .int .i64 1] none = some (.str (beB 1 x), none) := ev_sbig hS n x 1 (by omega) (by simp; omega)
  have hl := beB_len
  have t3 : a.take 16 = a := List.take_of_length_le (by omega)
  have t4 : b.take 16 = b := List.take_of_length_le (by omega)
  have x1 : 16 + 16 ≤ maxStr := by decide
  have x2 : 32 + 4 ≤ maxStr := by decide
  have x3 : 36 + 3 ≤ maxStr := by decide
  have x4 : 39 + 1 ≤ maxStr := by decide
  (try simp only [guard_merge, or_merge, and_merge, or_pick, and_pick, guard_or, guard_and]); simp only [to_ob]
  unfold ps6
  simp only [go_sem, ↓reduceIte, reduceCtorEq, upd_ne, back_new (no_at), Nat.reduceAdd, Nat.reduceEqDiff, Nat.reduceMul, Nat.reduceSub, Nat.reduceLeDiff, Nat.reduceLT, Int.reduceToNat, Int.reduceLE, Int.reduceLT, Int.reduceEq, UInt8.reduceOfNat, List.getElem?_map, Int.toNat_natCast, ha, hb, t3, t4, h1, h2, hl, x1, x2, x3, x4, toBytes_byteLV, List.length_append, List.append_assoc, List.cons_append, List.nil_append]
theorem ev_echoed (d o w : List UInt8) (k id : Nat) (hd : 6 ≤ d.length) (hd2 : d.length ≤ 900000) (ho : o.length % 2 = 0) (h1 : o.length ≤ 1000) (h2 : w.length ≤ 1000) (hk : k ≤ 255) (hi : id ≤ 65535) :
    S.ev (n + 4) id_fault_echoed [.str d, .str o, .str w, .int .i64 (k : Int), .int .i64 (id : Int)] none = some (.str (ecF d o w k id), none) := by
  rw [Sys.step hS.h_fault_echoed, F_fault_echoed_eq]
  unfold F_fault_echoed
  have g1 : S.ev (n + 3) id_fault_big [.int .i64 (k : Int), .int .i64 1] none = some (.str (beB 1 k), none) := ev_bigF hS (n + 1) k 1 (by omega) (lt1 (by omega) (by omega)) ⟨by omega, by omega⟩
  have g2 : S.ev (n + 3) id_fault_big [.int .i64 (id : Int), .int .i64 2] none = some (.str (beB 2 id), none) := ev_bigF hS (n + 1) id 2 (by omega) (lt2 (by omega) (by omega)) ⟨by omega, by omega⟩
  have hl := beB_len
  have l2 : 2 ≤ d.length := by omega
  have l4 : 4 ≤ d.length := by omega
  have t1 : (d.drop 6).take (d.length - 6) = d.drop 6 := List.take_of_length_le (by simp)
  have m1 : (d.take 2).length = 2 := by rw [List.length_take]; omega
  have m2 : ((d.drop 4).take 2).length = 2 := by rw [List.length_take, List.length_drop]; omega
  have m3 : ((d.drop 2).take 2).length = 2 := by rw [List.length_take, List.length_drop]; omega
  have x1 : 2 + 2 ≤ maxStr := by decide
  have x2 : 1 + 1 ≤ maxStr := by decide
  have x3 : 4 + 2 ≤ maxStr := by decide
  have x4 : 6 + (d.length - 6) ≤ maxStr := by unfold maxStr; omega
  have x5 : o.length + 4 ≤ maxStr := by unfold maxStr; omega
  have x6 : w.length + 2 ≤ maxStr := by unfold maxStr; omega
  have x7 : w.length + 2 + 2 ≤ maxStr := by unfold maxStr; omega
  have u1 := ev_upd hS n (ecD d k id) 2 (o ++ (d.take 2 ++ (d.drop 4).take 2)) (w ++ (beB 1 k ++ (0 :: beB 2 id))) false (by rw [ecD_len hd]; omega) (by omega) (by simp only [List.length_append, m1, m2]; omega) (by simp only [List.length_append, m1, m2]; omega) (by simp only [List.length_append, List.length_cons, beB_len]; omega)
  unfold ecF
  unfold ecD at u1 ⊢
  have u1 : S.ev (n + 3) id_fault_update [.str (beB 1 k ++ (0 :: ((d.drop 2).take 2 ++ (beB 2 id ++ d.drop 6)))), .int .i64 2, .str (o ++ (d.take 2 ++ (d.drop 4).take 2)), .str (w ++ (beB 1 k ++ (0 :: beB 2 id))), .bool false] none = _ := u1
  (try simp only [guard_merge, or_merge, and_merge, or_pick, and_pick, guard_or, guard_and]); simp only [to_ob]
  simp only [go_sem, ↓reduceIte, reduceCtorEq, upd_ne, back_new (no_at), Nat.reduceAdd, Nat.reduceEqDiff, Nat.reduceMul, Nat.reduceSub, Nat.reduceLeDiff, Nat.reduceLT, Int.reduceToNat, Int.reduceLE, Int.reduceLT, Int.reduceEq, UInt8.reduceOfNat, List.getElem?_map, Int.toNat_natCast, g1, g2, hl, hd, l2, l4, t1, m1, m2, m3, x1, x2, x3, x4, x5, x6, x7, u1, List.length_append, List.length_drop, List.length_cons, List.length_nil, List.append_assoc, List.cons_append, List.nil_append, Nat.sub_zero, List.drop_zero]
end
end Go.Ev

namespace Go.Ev
set_option linter.unusedSimpArgs false
set_option linter.unusedVariables false
set_option maxRecDepth 4000
set_option maxHeartbeats 2000000
section
variable {S : Sys} (hS : Has S) (n : Nat)
include hS
theorem ev_Words (s : List UInt8) (hs : s.length ≤ 1000000) : S.ev (n + 1) id_interpreterref02_Words [.str s] none = some (.lst none (intsLV (wordsN s)), none) := by
  rw [Sys.step hS.h_interpreterref02_Words, F_interpreterref02_Words_eq]
  unfold F_interpreterref02_Words F_interpreterref02_Words_k1
  (try simp only [guard_merge, or_merge, and_merge, or_pick, and_pick, guard_or, guard_and]); simp only [to_ob]
  have e1 : Int.tmod (s.length : Int) 2 = ((s.length % 2 : Nat) : Int) := by rw [Int.tmod_eq_emod_of_nonneg (by omega)]; omega
  by_cases hpar : s.length % 2 = 1
  · have hq : ((s.length % 2 : Nat) : Int) = 1 := by omega
    have hms : s.length + (0 + 1) ≤ maxStr := by unfold maxStr; omega
    simp only [go_sem, ↓reduceIte, reduceCtorEq, upd_ne, back_new (no_at), Nat.reduceAdd, Nat.reduceEqDiff, Nat.reduceMul, Nat.reduceSub, Nat.reduceLeDiff, Nat.reduceLT, Int.reduceToNat, Int.reduceLE, Int.reduceLT, Int.reduceEq, UInt8.reduceOfNat, ↓e_sadd, e1, hq, hms]
    have hw := wordsN_odd s hpar
    have hlen : (s ++ [0]).length % 2 = 0 := by simp; omega
    have hle : (s ++ [0]).length ≤ 1000001 := by simp; omega
    generalize s ++ [0] = t at hw hlen hle
    rw [← hw]
    refine while_rule (fun k q => ∃ i : Nat, q = ([.lst (some (3, 1)) (intsLV (wordsN (t.take (2 * i)))), .int .i64 ((2 * i : Nat) : Int)], upd noSlots 3 (.tag 1 i 1)) ∧ 2 * (i + k) = t.length) (t.length / 2) ⟨0, by simp [wordsN], by omega⟩ ?_
    rintro k q ⟨i, rfl, hi⟩
    simp only [go_sem, ↓reduceIte, reduceCtorEq, upd_ne, back_new (no_at), Nat.reduceAdd, Nat.reduceEqDiff, Nat.reduceMul, Nat.reduceSub, Nat.reduceLeDiff, Nat.reduceLT, Int.reduceToNat, Int.reduceLE, Int.reduceLT, Int.reduceEq, UInt8.reduceOfNat]
    refine nxt_ite (fun h => ?_) (fun h => ?_)
    · have hlt : 2 * i < t.length := by omega
      obtain ⟨a, ha⟩ : ∃ a, t[2 * i]? = some a := ⟨t[2 * i], by simp [hlt]⟩
      have hlt2 : 2 * i + 1 < t.length := by omega
      obtain ⟨b, hb⟩ : ∃ b, t[2 * i + 1]? = some b := ⟨t[2 * i + 1], by simp [hlt2]⟩
      have hal := a.toNat_lt
      have hbl := b.toNat_lt
      have e2 : IntKind.i64.wrap (a.toNat : Int) = (a.toNat : Int) := wrap_id (by omega) (by omega)
      have e3 : IntKind.i64.wrap (b.toNat : Int) = (b.toNat : Int) := wrap_id (by omega) (by omega)
      have e4 : IntKind.i64.wrap (256 * (a.toNat : Int)) = ((256 * a.toNat : Nat) : Int) := by rw [wrap_id (by omega) (by omega)]; omega
      have e5 : IntKind.i64.wrap (((2 * i : Nat) : Int) + 1) = ((2 * i + 1 : Nat) : Int) := by rw [wrap_id (by omega) (by omega)]; omega
      have e6 : IntKind.i64.wrap (((256 * a.toNat : Nat) : Int) + (b.toNat : Int)) = ((256 * a.toNat + b.toNat : Nat) : Int) := by rw [wrap_id (by omega) (by omega)]; omega
      have e7 : IntKind.i64.wrap (((2 * i : Nat) : Int) + 2) = ((2 * (i + 1) : Nat) : Int) := by rw [wrap_id (by omega) (by omega)]; omega
      have hwl : (wordsN (t.take (2 * i))).length = i := by rw [wordsN_len, List.length_take]; omega
      have hap := wAppend_tag (e := 1) (by' := 8) (d := 32) (t := 3) (g := 1) (n := i) (sz := 1) (sl := upd noSlots 3 (.tag 1 i 1)) (l := intsLV (wordsN (t.take (2 * i)))) (new := [.int .i64 ((256 * a.toNat + b.toNat : Nat) : Int)]) upd_same (by simp [hwl]) rfl (ints_flat _) (by simp [flatLen]) (by simp) (by simp [hwl]; omega)
      simp only [go_sem, ↓reduceIte, reduceCtorEq, upd_ne, back_new (no_at), Nat.reduceAdd, Nat.reduceEqDiff, Nat.reduceMul, Nat.reduceSub, Nat.reduceLeDiff, Nat.reduceLT, Int.reduceToNat, Int.reduceLE, Int.reduceLT, Int.reduceEq, UInt8.reduceOfNat, List.getElem?_map, Int.toNat_natCast, ha, hb, e2, e3, e4, e5, e6, e7, hap]
      refine ⟨k - 1, by omega, i + 1, ?_, by omega⟩
      rw [wordsN_take t i a b ha hb]
      simp
    · rw [List.take_of_length_le (by omega)]
      simp only [go_sem, ↓reduceIte, reduceCtorEq, upd_ne, back_new (no_at), Nat.reduceAdd, Nat.reduceEqDiff, Nat.reduceMul, Nat.reduceSub, Nat.reduceLeDiff, Nat.reduceLT, Int.reduceToNat, Int.reduceLE, Int.reduceLT, Int.reduceEq, UInt8.reduceOfNat, Nxt, exIf]
  · have hq : ¬ ((s.length % 2 : Nat) : Int) = 1 := by omega
    simp only [go_sem, ↓reduceIte, reduceCtorEq, upd_ne, back_new (no_at), Nat.reduceAdd, Nat.reduceEqDiff, Nat.reduceMul, Nat.reduceSub, Nat.reduceLeDiff, Nat.reduceLT, Int.reduceToNat, Int.reduceLE, Int.reduceLT, Int.reduceEq, UInt8.reduceOfNat, e1, hq]
    have hlen : s.length % 2 = 0 := by omega
    have hle : s.length ≤ 1000001 := by omega
    generalize s = t at hlen hle
    refine while_rule (fun k q => ∃ i : Nat, q = ([.lst (some (3, 1)) (intsLV (wordsN (t.take (2 * i)))), .int .i64 ((2 * i : Nat) : Int)], upd noSlots 3 (.tag 1 i 1)) ∧ 2 * (i + k) = t.length) (t.length / 2) ⟨0, by simp [wordsN], by omega⟩ ?_
    rintro k q ⟨i, rfl, hi⟩
    simp only [go_sem, ↓reduceIte, reduceCtorEq, upd_ne, back_new (no_at), Nat.reduceAdd, Nat.reduceEqDiff, Nat.reduceMul, Nat.reduceSub, Nat.reduceLeDiff, Nat.reduceLT, Int.reduceToNat, Int.reduceLE, Int.reduceLT, Int.reduceEq, UInt8.reduceOfNat]
    refine nxt_ite (fun h => ?_) (fun h => ?_)
    · have hlt : 2 * i < t.length := by omega
      obtain ⟨a, ha⟩ : ∃ a, t[2 * i]? = some a := ⟨t[2 * i], by simp [hlt]⟩
      have hlt2 : 2 * i + 1 < t.length := by omega
      obtain ⟨b, hb⟩ : ∃ b, t[2 * i + 1]? = some b := ⟨t[2 * i + 1], by simp [hlt2]⟩
      have hal := a.toNat_lt
      have hbl := b.toNat_lt
      have e2 : IntKind.i64.wrap (a.toNat : Int) = (a.toNat : Int) := wrap_id (by omega) (by omega)
      have e3 : IntKind.i64.wrap (b.toNat : Int) = (b.toNat : Int) := wrap_id (by omega) (by omega)
      have e4 : IntKind.i64.wrap (256 * (a.toNat : Int)) = ((256 * a.toNat : Nat) : Int) := by rw [wrap_id (by omega) (by omega)]; omega
      have e5 : IntKind.i64.wrap (((2 * i : Nat) : Int) + 1) = ((2 * i + 1 : Nat) : Int) := by rw [wrap_id (by omega) (by omega)]; omega
      have e6 : IntKind.i64.wrap (((256 * a.toNat : Nat) : Int) + (b.toNat : Int)) = ((256 * a.toNat + b.toNat : Nat) : Int) := by rw [wrap_id (by omega) (by omega)]; omega
      have e7 : IntKind.i64.wrap (((2 * i : Nat) : Int) + 2) = ((2 * (i + 1) : Nat) : Int) := by rw [wrap_id (by omega) (by omega)]; omega
      have hwl : (wordsN (t.take (2 * i))).length = i := by rw [wordsN_len, List.length_take]; omega
      have hap := wAppend_tag (e := 1) (by' := 8) (d := 32) (t := 3) (g := 1) (n := i) (sz := 1) (sl := upd noSlots 3 (.tag 1 i 1)) (l := intsLV (wordsN (t.take (2 * i)))) (new := [.int .i64 ((256 * a.toNat + b.toNat : Nat) : Int)]) upd_same (by simp [hwl]) rfl (ints_flat _) (by simp [flatLen]) (by simp) (by simp [hwl]; omega)
      simp only [go_sem, ↓reduceIte, reduceCtorEq, upd_ne, back_new (no_at), Nat.reduceAdd, Nat.reduceEqDiff, Nat.reduceMul, Nat.reduceSub, Nat.reduceLeDiff, Nat.reduceLT, Int.reduceToNat, Int.reduceLE, Int.reduceLT, Int.reduceEq, UInt8.reduceOfNat, List.getElem?_map, Int.toNat_natCast, ha, hb, e2, e3, e4, e5, e6, e7, hap]
      refine ⟨k - 1, by omega, i + 1, ?_, by omega⟩
      rw [wordsN_take t i a b ha hb]
      simp
    · rw [List.take_of_length_le (by omega)]
      simp only [go_sem, ↓reduceIte, reduceCtorEq, upd_ne, back_new (no_at), Nat.reduceAdd, Nat.reduceEqDiff, Nat.reduceMul, Nat.reduceSub, Nat.reduceLeDiff, Nat.reduceLT, Int.reduceToNat, Int.reduceLE, Int.reduceLT, Int.reduceEq, UInt8.reduceOfNat, Nxt, exIf]
end
end Go.Ev

namespace Go.Ev
set_option linter.unusedSimpArgs false
set_option linter.unusedVariables false
set_option maxRecDepth 4000
set_option maxHeartbeats 2000000
section
variable {S : Sys} (hS : Has S) (n : Nat)
include hS
theorem ev_Total (l : List Nat) (h1 : ∀ w ∈ l, w ≤ 65535) (h2 : l.length ≤ 1000000) : S.ev (n + 1) id_interpreterref02_Total [.lst none (intsLV l)] none = some (.int .i64 (ones l.sum : Nat), none) := by
  rw [Sys.step hS.h_interpreterref02_Total, F_interpreterref02_Total_eq]
  unfold F_interpreterref02_Total
  (try simp only [guard_merge, or_merge, and_merge, or_pick, and_pick, guard_or, guard_and]); simp only [to_ob]
  simp only [go_sem, ↓reduceIte, reduceCtorEq, upd_ne, back_new (no_at), Nat.reduceAdd, Nat.reduceEqDiff, Nat.reduceMul, Nat.reduceSub, Nat.reduceLeDiff, Nat.reduceLT, Int.reduceToNat, Int.reduceLE, Int.reduceLT, Int.reduceEq, UInt8.reduceOfNat]
  have hsum : ∀ i, (l.take i).sum ≤ 65535 * i := by
    intro i
    induction i with
    | zero => simp
    | succ i ih =>
      rw [List.take_add_one]
      cases hc : l[i]? with
      | none => simp; omega
      | some w =>
        have := h1 w (List.mem_of_getElem? hc)
        simp; omega
  have hs : l.sum ≤ 65535 * l.length := by have := hsum l.length; rwa [List.take_length] at this
  refine while_rule (fun k q => ∃ i : Nat, q = ([.int .i64 ((l.take i).sum : Nat), .int .i64 (i : Int)], noSlots) ∧ i + k = l.length) l.length ⟨0, by simp, by simp⟩ ?_
  rintro k q ⟨i, rfl, hi⟩
  simp only [go_sem, ↓reduceIte, reduceCtorEq, upd_ne, back_new (no_at), Nat.reduceAdd, Nat.reduceEqDiff, Nat.reduceMul, Nat.reduceSub, Nat.reduceLeDiff, Nat.reduceLT, Int.reduceToNat, Int.reduceLE, Int.reduceLT, Int.reduceEq, UInt8.reduceOfNat, List.length_map]
  refine nxt_ite (fun h => ?_) (fun h => ?_)
  · have hlt : i < l.length := by omega
    obtain ⟨w, hw⟩ : ∃ w, l[i]? = some w := ⟨l[i], by simp [hlt]⟩
    have := h1 w (List.mem_of_getElem? hw)
    have hb := hsum i
    have e1 : IntKind.i64.wrap (((l.take i).sum : Nat) + (w : Int)) = ((l.take (i + 1)).sum : Nat) := by
      rw [wrap_id (by omega) (by omega), List.take_add_one, hw]; simp
    have e2 : IntKind.i64.wrap ((i : Int) + 1) = ((i + 1 : Nat) : Int) := by rw [wrap_id (by omega) (by omega)]; omega
    simp only [go_sem, ↓reduceIte, reduceCtorEq, upd_ne, back_new (no_at), Nat.reduceAdd, Nat.reduceEqDiff, Nat.reduceMul, Nat.reduceSub, Nat.reduceLeDiff, Nat.reduceLT, Int.reduceToNat, Int.reduceLE, Int.reduceLT, Int.reduceEq, UInt8.reduceOfNat, List.getElem?_map, Int.toNat_natCast, hw, e1, e2]
    exact ⟨k - 1, by omega, i + 1, rfl, by omega⟩
  · rw [List.take_of_length_le (by omega)]
    simp only [go_sem, ↓reduceIte, reduceCtorEq, upd_ne, back_new (no_at), Nat.reduceAdd, Nat.reduceEqDiff, Nat.reduceMul, Nat.reduceSub, Nat.reduceLeDiff, Nat.reduceLT, Int.reduceToNat, Int.reduceLE, Int.reduceLT, Int.reduceEq, UInt8.reduceOfNat, Nxt, exIf]
    refine while_rule (fun k q => ∃ x : Nat, q = ([.int .i64 (x : Int)], noSlots) ∧ k = x ∧ ones x = ones l.sum ∧ x ≤ 9223372036854775807) l.sum ⟨_, rfl, rfl, rfl, by omega⟩ ?_
    rintro k q ⟨x, rfl, rfl, hx, hb⟩
    simp only [go_sem, ↓reduceIte, reduceCtorEq, upd_ne, back_new (no_at), Nat.reduceAdd, Nat.reduceEqDiff, Nat.reduceMul, Nat.reduceSub, Nat.reduceLeDiff, Nat.reduceLT, Int.reduceToNat, Int.reduceLE, Int.reduceLT, Int.reduceEq, UInt8.reduceOfNat]
    refine nxt_ite (fun h => ?_) (fun h => ?_)
    · have e1 : IntKind.i64.wrap (Int.tdiv (k : Int) 65536) = ((k / 65536 : Nat) : Int) := by
        rw [show Int.tdiv (k : Int) 65536 = ((k / 65536 : Nat) : Int) from rfl, wrap_id (by omega) (by omega)]
      have e2 : Int.tmod (k : Int) 65536 = ((k % 65536 : Nat) : Int) := rfl
      have e3 : IntKind.i64.wrap (((k / 65536 : Nat) : Int) + ((k % 65536 : Nat) : Int)) = ((k / 65536 + k % 65536 : Nat) : Int) := by
        rw [wrap_id (by omega) (by omega)]; omega
      have hk : 65535 < k := by omega
      simp only [go_sem, ↓reduceIte, reduceCtorEq, upd_ne, back_new (no_at), Nat.reduceAdd, Nat.reduceEqDiff, Nat.reduceMul, Nat.reduceSub, Nat.reduceLeDiff, Nat.reduceLT, Int.reduceToNat, Int.reduceLE, Int.reduceLT, Int.reduceEq, UInt8.reduceOfNat, e1, e2, e3]
      exact ⟨_, by omega, _, rfl, rfl, by rw [ones_step hk, hx], by omega⟩
    · have hk : k ≤ 65535 := by omega
      simp only [go_sem, ↓reduceIte, reduceCtorEq, upd_ne, back_new (no_at), Nat.reduceAdd, Nat.reduceEqDiff, Nat.reduceMul, Nat.reduceSub, Nat.reduceLeDiff, Nat.reduceLT, Int.reduceToNat, Int.reduceLE, Int.reduceLT, Int.reduceEq, UInt8.reduceOfNat, Nxt, exIf]
      rw [← hx, ones_small hk]
theorem ev_rOf (s : List UInt8) (hs : s.length ≤ 1000000) : S.ev (n + 2) id_interpreterref02_Of [.str s] none = some (.int .i64 (65535 - (ones (sumAt 0 s) : Nat)), none) := by
  rw [Sys.step hS.h_interpreterref02_Of, F_interpreterref02_Of_eq]
  unfold F_interpreterref02_Of
  have h1 := ev_Words hS n s hs
  have h2 := ev_Total hS n (wordsN s) (wordsN_le s) (by rw [wordsN_len]; omega)
  rw [wordsN_sum] at h2
  have ho := ones_le (sumAt 0 s)
  have e1 : IntKind.i64.wrap (65535 - ((ones (sumAt 0 s) : Nat) : Int)) = 65535 - ((ones (sumAt 0 s) : Nat) : Int) := wrap_id (by omega) (by omega)
  (try simp only [guard_merge, or_merge, and_merge, or_pick, and_pick, guard_or, guard_and]); simp only [to_ob]
  simp only [go_sem, ↓reduceIte, reduceCtorEq, upd_ne, back_new (no_at), Nat.reduceAdd, Nat.reduceEqDiff, Nat.reduceMul, Nat.reduceSub, Nat.reduceLeDiff, Nat.reduceLT, Int.reduceToNat, Int.reduceLE, Int.reduceLT, Int.reduceEq, UInt8.reduceOfNat, h1, h2, e1]
end
end Go.Ev

namespace Go.Ev
set_option linter.unusedSimpArgs false
set_option linter.unusedVariables false
set_option maxRecDepth 10000
set_option maxHeartbeats 8000000
theorem beB_succ (i x : Nat) : beB (i + 1) x = UInt8.ofNat (x / 256 ^ i) :: beB i x := by
  unfold beB
  rw [List.range_succ_eq_map, List.map_cons, List.map_map]
  congr 1
  apply List.map_congr_left
  intro j hj
  simp only [Function.comp]
  rw [show i + 1 - 1 - (j + 1) = i - 1 - j by omega]
theorem upd_one {x : Nat} {o w : List UInt8} (ho : o.length % 2 = 0) :
    ones ((65535 - x) + ((wordsN o).map (65535 - ·)).sum + (wordsN w).sum) = ones (ones (65535 - x + sumAt 0 (turn 255 o)) + sumAt 0 w) := by
  have h : ∀ l : List Nat, (∀ y ∈ l, y ≤ 65535) → (l.map (65535 - ·)).sum + l.sum = 65535 * l.length := by
    intro l
    induction l with
    | nil => intro _; rfl
    | cons a l ih =>
      intro hl
      have h1 := ih fun y hy => hl y (List.mem_cons_of_mem _ hy)
      have h2 := hl a (List.mem_cons_self ..)
      simp only [List.map_cons, List.sum_cons, List.length_cons]
      omega
  have h1 := h (wordsN o) (wordsN_le o)
  have h2 := turn_sum o ho
  rw [wordsN_sum, wordsN_len] at h1
  rw [ones_add, wordsN_sum]
  congr 1
  omega
section
variable {S : Sys} (hS : Has S) (n : Nat)
include hS
theorem ev_PutD (x m : Nat) (hx : x ≤ 9223372036854775807) (hm : m ≤ 8) : S.ev (n + 1) id_interpreterref01_Put [.int .i64 (x : Int), .int .i64 (m : Int)] none = some (.str (beB m x), none) := by
  rw [Sys.step hS.h_interpreterref01_Put, F_interpreterref01_Put_eq]
  unfold F_interpreterref01_Put
  (try simp only [guard_merge, or_merge, and_merge, or_pick, and_pick, guard_or, guard_and]); simp only [to_ob]
  simp only [go_sem, ↓reduceIte, reduceCtorEq, upd_ne, back_new (no_at), Nat.reduceAdd, Nat.reduceEqDiff, Nat.reduceMul, Nat.reduceSub, Nat.reduceLeDiff, Nat.reduceLT, Int.reduceToNat, Int.reduceLE, Int.reduceLT, Int.reduceEq, UInt8.reduceOfNat]
  refine while_rule (fun k q => ∃ i : Nat, i + k = m ∧ q = ([.str (beB i x), .int .i64 ((x / 256 ^ i : Nat) : Int), .int .i64 (i : Int)], noSlots)) m ⟨0, by omega, by simp [beB]⟩ ?_
  rintro k q ⟨i, hi, rfl⟩
  simp only [go_sem, ↓reduceIte, reduceCtorEq, upd_ne, back_new (no_at), Nat.reduceAdd, Nat.reduceEqDiff, Nat.reduceMul, Nat.reduceSub, Nat.reduceLeDiff, Nat.reduceLT, Int.reduceToNat, Int.reduceLE, Int.reduceLT, Int.reduceEq, UInt8.reduceOfNat]
  refine nxt_ite (fun h => ?_) (fun h => ?_)
  · have hd : x / 256 ^ i ≤ x := Nat.div_le_self _ _
    have hd2 : x / 256 ^ i / 256 ≤ x / 256 ^ i := Nat.div_le_self _ _
    have e1 : IntKind.i64.wrap ((i : Int) + 1) = ((i + 1 : Nat) : Int) := by rw [wrap_id (by omega) (by omega)]; omega
    have e2 : IntKind.u8.wrap (Int.tmod ((x / 256 ^ i : Nat) : Int) 256) = ((UInt8.ofNat (x / 256 ^ i)).toNat : Int) := by
      rw [mod256, u8w, u8_ofNat_mod]
    have e3 : IntKind.i64.wrap (Int.tdiv ((x / 256 ^ i : Nat) : Int) 256) = ((x / 256 ^ (i + 1) : Nat) : Int) := by
      rw [show Int.tdiv ((x / 256 ^ i : Nat) : Int) 256 = ((x / 256 ^ i / 256 : Nat) : Int) from rfl, wrap_id (by omega) (by omega), Nat.div_div_eq_div_mul, Nat.pow_succ]
    have m1 : 1 + i ≤ maxStr := by unfold maxStr; omega
    have m2 : 0 + 1 + i ≤ maxStr := by unfold maxStr; omega
    simp only [go_sem, ↓reduceIte, reduceCtorEq, upd_ne, back_new (no_at), Nat.reduceAdd, Nat.reduceEqDiff, Nat.reduceMul, Nat.reduceSub, Nat.reduceLeDiff, Nat.reduceLT, Int.reduceToNat, Int.reduceLE, Int.reduceLT, Int.reduceEq, UInt8.reduceOfNat, List.getElem?_map, Int.toNat_natCast, ↓e_sadd, e1, e2, e3, u8_lt, UInt8.ofNat_toNat, beB_len, m1, m2, byteLV]
    exact ⟨k - 1, by omega, i + 1, by omega, by rw [beB_succ]⟩
  · obtain rfl : i = m := by omega
    simp only [go_sem, ↓reduceIte, reduceCtorEq, upd_ne, back_new (no_at), Nat.reduceAdd, Nat.reduceEqDiff, Nat.reduceMul, Nat.reduceSub, Nat.reduceLeDiff, Nat.reduceLT, Int.reduceToNat, Int.reduceLE, Int.reduceLT, Int.reduceEq, UInt8.reduceOfNat, Nxt, exIf]
theorem ev_put15 (x m : Nat) (hx : x ≤ 9223372036854775807) (hm : m ≤ 8) : S.ev (n + 2) id_interpreterref15_put [.int .i64 (x : Int), .int .i64 (m : Int)] none = some (.str (beB m x), none) := by
  rw [Sys.step hS.h_interpreterref15_put, F_interpreterref15_put_eq]
  unfold F_interpreterref15_put
  have h := ev_PutD hS n x m hx hm
  simp only [to_ob]
  simp only [go_sem, ↓reduceIte, reduceCtorEq, upd_ne, back_new (no_at), Nat.reduceAdd, Nat.reduceEqDiff, Nat.reduceMul, Nat.reduceSub, Nat.reduceLeDiff, Nat.reduceLT, Int.reduceToNat, Int.reduceLE, Int.reduceLT, Int.reduceEq, UInt8.reduceOfNat, h]
theorem ev_low (x m : Nat) (hm : m ≤ 4) (hx : x < 256 ^ m) : S.ev (n + 2) id_interpreterref02_low [.int .i64 (x : Int), .int .i64 (m : Int)] none = some (.str (beB m x), none) := by
  rw [Sys.step hS.h_interpreterref02_low, F_interpreterref02_low_eq]
  unfold F_interpreterref02_low
  have hp : ∀ i, i ≤ m → 1 ≤ 256 ^ i ∧ 256 ^ i ≤ 4294967296 := fun i hi => by
    have h1 : 256 ^ i ≤ 256 ^ 4 := Nat.pow_le_pow_right (by omega) (by omega)
    have h2 : 0 < 256 ^ i := Nat.pow_pos (by omega)
    exact ⟨h2, by simpa using h1⟩
  have h := ev_PutD hS n x m (by have := hp m (by omega); omega) (by omega)
  (try simp only [guard_merge, or_merge, and_merge, or_pick, and_pick, guard_or, guard_and]); simp only [to_ob]
  simp only [go_sem, ↓reduceIte, reduceCtorEq, upd_ne, back_new (no_at), Nat.reduceAdd, Nat.reduceEqDiff, Nat.reduceMul, Nat.reduceSub, Nat.reduceLeDiff, Nat.reduceLT, Int.reduceToNat, Int.reduceLE, Int.reduceLT, Int.reduceEq, UInt8.reduceOfNat]
  refine while_rule (fun k q => ∃ i : Nat, i + k = m ∧ q = ([.int .i64 ((256 ^ i : Nat) : Int), .int .i64 (i : Int)], noSlots)) m ⟨0, by omega, by simp⟩ ?_
  rintro k q ⟨i, hi, rfl⟩
  simp only [go_sem, ↓reduceIte, reduceCtorEq, upd_ne, back_new (no_at), Nat.reduceAdd, Nat.reduceEqDiff, Nat.reduceMul, Nat.reduceSub, Nat.reduceLeDiff, Nat.reduceLT, Int.reduceToNat, Int.reduceLE, Int.reduceLT, Int.reduceEq, UInt8.reduceOfNat]
  refine nxt_ite (fun hlt => ?_) (fun hlt => ?_)
  · have hi1 := hp (i + 1) (by omega)
    have e1 : IntKind.i64.wrap ((i : Int) + 1) = ((i + 1 : Nat) : Int) := by rw [wrap_id (by omega) (by omega)]; omega
    have e2 : IntKind.i64.wrap (((256 ^ i : Nat) : Int) * 256) = ((256 ^ (i + 1) : Nat) : Int) := by
      rw [Nat.pow_succ] at hi1 ⊢
      generalize 256 ^ i = y at *
      rw [wrap_id (by omega) (by omega)]; omega
    simp only [go_sem, ↓reduceIte, reduceCtorEq, upd_ne, back_new (no_at), Nat.reduceAdd, Nat.reduceEqDiff, Nat.reduceMul, Nat.reduceSub, Nat.reduceLeDiff, Nat.reduceLT, Int.reduceToNat, Int.reduceLE, Int.reduceLT, Int.reduceEq, UInt8.reduceOfNat, List.getElem?_map, Int.toNat_natCast, e1, e2]
    exact ⟨k - 1, by omega, i + 1, by omega, rfl⟩
  · obtain rfl : i = m := by omega
    have hi1 := hp i (by omega)
    generalize 256 ^ i = y at *
    have e1 : Int.tmod (x : Int) (y : Int) = (x : Int) := by
      rw [show Int.tmod (x : Int) (y : Int) = ((x % y : Nat) : Int) from rfl, Nat.mod_eq_of_lt hx]
    have e2 : ¬ (y : Int) = 0 := by omega
    have e3 : ¬ (x : Int) < 0 := by omega
    simp only [go_sem, ↓reduceIte, reduceCtorEq, upd_ne, back_new (no_at), Nat.reduceAdd, Nat.reduceEqDiff, Nat.reduceMul, Nat.reduceSub, Nat.reduceLeDiff, Nat.reduceLT, Int.reduceToNat, Int.reduceLE, Int.reduceLT, Int.reduceEq, UInt8.reduceOfNat, List.getElem?_map, Int.toNat_natCast, Nxt, exIf, e1, e2, e3, h]
theorem ev_rPseudo6 (a b : List UInt8) (x l : Nat) (ha : a.length = 16) (hb : b.length = 16) (hx : x ≤ 255) (hl : l < 4294967296) :
    S.ev (n + 3) id_interpreterref02_Pseudo6 [.bytes a, .bytes b, .int .i64 (x : Int), .int .i64 (l : Int)] none = some (.str (ps6 a b x l), none) := by
  rw [Sys.step hS.h_interpreterref02_Pseudo6, F_interpreterref02_Pseudo6_eq]
  unfold F_interpreterref02_Pseudo6
  have h1 : S.ev (n + 2) id_interpreterref02_low [.int .i64 (l : Int), .int .i64 4] none = some (.str (beB 4 l), none) := ev_low hS n l 4 (by omega) (by omega)
  have h2 : S.ev (n + 2) id_interpreterref02_low [.int .i64 0, .int .i64 3] none = some (.str [0, 0, 0], none) := ev_low hS n 0 3 (by omega) (by omega)
  have h3 : S.ev (n + 2) id_interpreterref02_low [.int .i64 (x : Int), .int .i64 1] none = some (.str (beB 1 x), none) := ev_low hS n x 1 (by omega) (by omega)
  have hbl := beB_len
  have x1 : ∀ y : Nat, y ≤ 100 → y ≤ maxStr := fun y h => by unfold maxStr; omega
  (try simp only [guard_merge, or_merge, and_merge, or_pick, and_pick, guard_or, guard_and]); simp only [to_ob]
  simp only [go_sem, ↓reduceIte, reduceCtorEq, upd_ne, back_new (no_at), Nat.reduceAdd, Nat.reduceEqDiff, Nat.reduceMul, Nat.reduceSub, Nat.reduceLeDiff, Nat.reduceLT, Int.reduceToNat, Int.reduceLE, Int.reduceLT, Int.reduceEq, UInt8.reduceOfNat]
  refine while_rule (fun k q => ∃ i : Nat, i + k = 16 ∧ q = ([LV.str (a.take i), LV.int .i64 (i : Int)], noSlots)) 16 ⟨0, by omega, by simp⟩ ?_
  rintro k q ⟨i, hi, rfl⟩
  simp only [go_sem, ↓reduceIte, reduceCtorEq, upd_ne, back_new (no_at), Nat.reduceAdd, Nat.reduceEqDiff, Nat.reduceMul, Nat.reduceSub, Nat.reduceLeDiff, Nat.reduceLT, Int.reduceToNat, Int.reduceLE, Int.reduceLT, Int.reduceEq, UInt8.reduceOfNat]
  refine nxt_ite (fun h => ?_) (fun h => ?_)
  · have ga := get_def (s := a) (i := i) (by omega)
    have hal := (a.getD i 0).toNat_lt
    have e1 : IntKind.i64.wrap ((i : Int) + 1) = ((i + 1 : Nat) : Int) := by rw [wrap_id (by omega) (by omega)]; omega
    have ht : a.take (i + 1) = a.take i ++ [a.getD i 0] := by rw [List.take_add_one, ga]; rfl
    have hlt : (a.take i).length = i := by rw [List.length_take]; omega
    have m1 := x1 (i + 1) (by omega)
    have hi16 : i < 16 := by omega
    simp only [go_sem, ↓reduceIte, reduceCtorEq, upd_ne, back_new (no_at), Nat.reduceAdd, Nat.reduceEqDiff, Nat.reduceMul, Nat.reduceSub, Nat.reduceLeDiff, Nat.reduceLT, Int.reduceToNat, Int.reduceLE, Int.reduceLT, Int.reduceEq, UInt8.reduceOfNat, List.getElem?_map, Int.toNat_natCast, ↓e_sadd, ha, hi16, ga, e1, hlt, m1, byteLV, UInt8.ofNat_toNat]
    exact ⟨k - 1, by omega, i + 1, by omega, by rw [ht]⟩
  · rw [List.take_of_length_le (by omega)]
    simp only [go_sem, ↓reduceIte, reduceCtorEq, upd_ne, back_new (no_at), Nat.reduceAdd, Nat.reduceEqDiff, Nat.reduceMul, Nat.reduceSub, Nat.reduceLeDiff, Nat.reduceLT, Int.reduceToNat, Int.reduceLE, Int.reduceLT, Int.reduceEq, UInt8.reduceOfNat, Nxt, exIf]
    refine while_rule (fun k q => ∃ i : Nat, i + k = 16 ∧ q = ([LV.str (a ++ b.take i), LV.int .i64 (i : Int)], noSlots)) 16 ⟨0, by omega, by simp [getL]⟩ ?_
    rintro k q ⟨i, hi, rfl⟩
    simp only [go_sem, ↓reduceIte, reduceCtorEq, upd_ne, back_new (no_at), Nat.reduceAdd, Nat.reduceEqDiff, Nat.reduceMul, Nat.reduceSub, Nat.reduceLeDiff, Nat.reduceLT, Int.reduceToNat, Int.reduceLE, Int.reduceLT, Int.reduceEq, UInt8.reduceOfNat]
    refine nxt_ite (fun h => ?_) (fun h => ?_)
    · have ga := get_def (s := b) (i := i) (by omega)
      have hal := (b.getD i 0).toNat_lt
      have e1 : IntKind.i64.wrap ((i : Int) + 1) = ((i + 1 : Nat) : Int) := by rw [wrap_id (by omega) (by omega)]; omega
      have ht : b.take (i + 1) = b.take i ++ [b.getD i 0] := by rw [List.take_add_one, ga]; rfl
      have hlt : (a ++ b.take i).length = 16 + i := by rw [List.length_append, List.length_take]; omega
      have m1 := x1 (16 + i + 1) (by omega)
      have hi16 : i < 16 := by omega
      simp only [go_sem, ↓reduceIte, reduceCtorEq, upd_ne, back_new (no_at), Nat.reduceAdd, Nat.reduceEqDiff, Nat.reduceMul, Nat.reduceSub, Nat.reduceLeDiff, Nat.reduceLT, Int.reduceToNat, Int.reduceLE, Int.reduceLT, Int.reduceEq, UInt8.reduceOfNat, List.getElem?_map, Int.toNat_natCast, ↓e_sadd, hb, hi16, ga, e1, hlt, m1, byteLV, UInt8.ofNat_toNat]
      exact ⟨k - 1, by omega, i + 1, by omega, by rw [ht, List.append_assoc]⟩
    · rw [List.take_of_length_le (by omega)]
      have y1 := x1 (16 + 16 + 4) (by omega)
      have y2 := x1 (16 + 16 + 4 + 3) (by omega)
      have y3 := x1 (16 + 16 + 4 + 3 + 1) (by omega)
      unfold ps6
      simp only [go_sem, ↓reduceIte, reduceCtorEq, upd_ne, back_new (no_at), Nat.reduceAdd, Nat.reduceEqDiff, Nat.reduceMul, Nat.reduceSub, Nat.reduceLeDiff, Nat.reduceLT, Int.reduceToNat, Int.reduceLE, Int.reduceLT, Int.reduceEq, UInt8.reduceOfNat, List.getElem?_map, Int.toNat_natCast, Nxt, exIf, h1, h2, h3, ha, hb, hbl, y1, y2, y3, x1, List.length_append, List.length_cons, List.length_nil, List.append_assoc, List.cons_append, List.nil_append]
theorem ev_rUpdate (x : Nat) (o w : List UInt8) (hx : x ≤ 65535) (ho : o.length % 2 = 0) (h1 : o.length ≤ 100000) (h2 : w.length ≤ 100000) (h3 : w ≠ []) :
    S.ev (n + 2) id_interpreterref02_Update [.int .i64 (x : Int), .str o, .str w] none = some (.int .i64 ((updN x o w : Nat) : Int), none) := by
  rw [Sys.step hS.h_interpreterref02_Update, F_interpreterref02_Update_eq]
  unfold F_interpreterref02_Update updN
  rw [← upd_one ho]
  have w1 := ev_Words hS n o (by omega)
  have w2 := ev_Words hS n w (by omega)
  have lo := wordsN_len o
  have lw := wordsN_len w
  have bo := wordsN_le o
  have bw := wordsN_le w
  have hB : wordsN w ≠ [] := fun h => h3 (List.eq_nil_of_length_eq_zero (by rw [h] at lw; simp at lw; omega))
  generalize wordsN o = A at *
  generalize wordsN w = B at *
  have hT := ev_Total hS n ((65535 - x) :: A.map (65535 - ·) ++ B) (by
    intro y hy
    rcases List.mem_append.1 hy with h | h
    · rcases List.mem_cons.1 h with rfl | h
      · omega
      · obtain ⟨z, _, rfl⟩ := List.mem_map.1 h; omega
    · exact bw y h) (by simp only [List.length_append, List.length_cons, List.length_map]; omega)
  rw [show ((65535 - x) :: A.map (65535 - ·) ++ B).sum = 65535 - x + (A.map (65535 - ·)).sum + B.sum by simp [Nat.add_assoc]] at hT
  rw [List.cons_append] at hT
  have ho := ones_le (65535 - x + (A.map (65535 - ·)).sum + B.sum)
  generalize ones (65535 - x + (A.map (65535 - ·)).sum + B.sum) = R at *
  have e1 : Int.tmod (x : Int) 65536 = (x : Int) := by rw [show Int.tmod (x : Int) 65536 = ((x % 65536 : Nat) : Int) from rfl, Nat.mod_eq_of_lt (by omega)]
  have e2 : ¬ (x : Int) < 0 := by omega
  have e3 : IntKind.i64.wrap (65535 - (x : Int)) = ((65535 - x : Nat) : Int) := by rw [wrap_id (by omega) (by omega)]; omega
  have e4 : IntKind.i64.wrap (65535 - (R : Int)) = ((65535 - R : Nat) : Int) := by rw [wrap_id (by omega) (by omega)]; omega
  have hbs : cBslT (.int .i64 0) 1 [(0, .int .i64 ((65535 - x : Nat) : Int))] 18 noSlots = some (.lst (some (18, 1)) (intsLV [65535 - x]), upd noSlots 18 (.tag 1 1 1)) := rfl
  have hap : ∀ (D : Nat) (l m : List Nat), l.length ≤ 200000 → m.length ≤ 200000 → m ≠ [] → wAppend 1 8 D (upd noSlots 18 (.tag 1 l.length 1)) (.lst (some (18, 1)) (intsLV l)) (.lst none (intsLV m)) = some (.lst (some (18, 1)) (intsLV (l ++ m)), upd (upd noSlots 18 (.tag 1 l.length 1)) 18 (.tag 1 (l.length + m.length) 1)) := fun D l m h1 h2 h3 => by
    have := wAppend_tag (e := 1) (by' := 8) (d := D) (t := 18) (g := 1) (n := l.length) (sz := 1) (sl := upd noSlots 18 (.tag 1 l.length 1)) (l := intsLV l) (new := intsLV m) upd_same (by simp) rfl (ints_flat _) (ints_flat _) (by simpa using h3) (by simp; omega)
    rw [this]; simp
  (try simp only [guard_merge, or_merge, and_merge, or_pick, and_pick, guard_or, guard_and]); simp only [to_ob]
  simp only [go_sem, ↓reduceIte, reduceCtorEq, upd_ne, back_new (no_at), Nat.reduceAdd, Nat.reduceEqDiff, Nat.reduceMul, Nat.reduceSub, Nat.reduceLeDiff, Nat.reduceLT, Int.reduceToNat, Int.reduceLE, Int.reduceLT, Int.reduceEq, UInt8.reduceOfNat, e1, e2, e3, hbs, w1]
  refine while_rule (fun k q => ∃ i : Nat, i + k = A.length ∧ q = ([LV.lst (some (18, 1)) (intsLV ((65535 - x) :: (A.map (65535 - ·)).take i)), LV.int .i64 (i : Int)], upd noSlots 18 (.tag 1 (1 + i) 1))) A.length ⟨0, by omega, by simp⟩ ?_
  rintro k q ⟨i, hi, rfl⟩
  by_cases h : i < A.length
  · have h' : (i : Int) < (A.length : Int) := by omega
    obtain ⟨y, hy⟩ : ∃ y, A[i]? = some y := ⟨A[i], by simp [h]⟩
    have hyl := bo y (List.mem_of_getElem? hy)
    have f1 : IntKind.i64.wrap (65535 - (y : Int)) = ((65535 - y : Nat) : Int) := by rw [wrap_id (by omega) (by omega)]; omega
    have f2 : IntKind.i64.wrap ((i : Int) + 1) = ((i + 1 : Nat) : Int) := by rw [wrap_id (by omega) (by omega)]; omega
    have ht : (A.map (65535 - ·)).take (i + 1) = (A.map (65535 - ·)).take i ++ [65535 - y] := by rw [List.take_add_one]; simp [hy]
    have hlen : ((65535 - x) :: (A.map (65535 - ·)).take i).length = 1 + i := by simp; omega
    have ha := hap 34 ((65535 - x) :: (A.map (65535 - ·)).take i) [65535 - y] (by omega) (by simp) (by simp)
    rw [hlen] at ha
    have ha : wAppend 1 8 34 (upd noSlots 18 (.tag 1 (1 + i) 1)) (.lst (some (18, 1)) (intsLV ((65535 - x) :: (A.map (65535 - ·)).take i))) (.lst none [.int .i64 ((65535 - y : Nat) : Int)]) = _ := ha
    simp only [go_sem, ↓reduceIte, reduceCtorEq, upd_ne, back_new (no_at), Nat.reduceAdd, Nat.reduceEqDiff, Nat.reduceMul, Nat.reduceSub, Nat.reduceLeDiff, Nat.reduceLT, Int.reduceToNat, Int.reduceLE, Int.reduceLT, Int.reduceEq, UInt8.reduceOfNat, List.getElem?_map, Int.toNat_natCast, List.length_map, h', hy, f1, f2, ha, Option.map_some]
    exact ⟨k - 1, by omega, i + 1, by omega, by rw [ht]; rfl⟩
  · have h' : ¬ (i : Int) < (A.length : Int) := by omega
    rw [List.take_of_length_le (by simp; omega), show i = A.length by omega]
    have hlen : ((65535 - x) :: A.map (65535 - ·)).length = 1 + A.length := by simp; omega
    have ha := hap 38 ((65535 - x) :: A.map (65535 - ·)) B (by omega) (by omega) hB
    rw [hlen] at ha
    have hh : ¬ (A.length : Int) < (A.length : Int) := by omega
    simp only [go_sem, ↓reduceIte, reduceCtorEq, upd_ne, back_new (no_at), Nat.reduceAdd, Nat.reduceEqDiff, Nat.reduceMul, Nat.reduceSub, Nat.reduceLeDiff, Nat.reduceLT, Int.reduceToNat, Int.reduceLE, Int.reduceLT, Int.reduceEq, UInt8.reduceOfNat, List.getElem?_map, Int.toNat_natCast, List.length_map, hh, Nxt, exIf, w2, ha, hT, e4]
end
end Go.Ev

namespace Go.Ev
set_option linter.unusedSimpArgs false
set_option linter.unusedVariables false
set_option maxRecDepth 4000
set_option maxHeartbeats 4000000
section
variable {S : Sys} (hS : Has S) (n : Nat)
include hS
theorem ev_within (x m : Int) : S.ev (n + 1) id_interpreterref03_within [.int .i64 x, .int .i64 m] none = some (.bool (decide (0 ≤ x ∧ x ≤ m)), none) := by
  rw [Sys.step hS.h_interpreterref03_within, F_interpreterref03_within_eq]
  unfold F_interpreterref03_within
  (try simp only [guard_merge, or_merge, and_merge, or_pick, and_pick, guard_or, guard_and]); simp only [to_ob]
  by_cases h1 : 0 ≤ x <;> by_cases h2 : x ≤ m <;> simp only [go_sem, ↓reduceIte, reduceCtorEq, upd_ne, back_new (no_at), Nat.reduceAdd, Nat.reduceEqDiff, Nat.reduceMul, Nat.reduceSub, Nat.reduceLeDiff, Nat.reduceLT, Int.reduceToNat, Int.reduceLE, Int.reduceLT, Int.reduceEq, UInt8.reduceOfNat, h1, h2]
theorem ev_Why3 {tos id ttl pt at' : Int} {df mo : Bool} {fr to op da : List UInt8} (hfr : fr.length = 4) (hto : to.length = 4) (hop : op.length ≤ 140737488351232) (hda : da.length ≤ 140737488351232) :
    S.ev (n + 2) id_interpreterref03_Why [ip4LV tos id ttl pt at' df mo fr to op da] none = some (.int .i64 (why4 tos id ttl pt at' mo op da), none) := by
  rw [Sys.step hS.h_interpreterref03_Why, F_interpreterref03_Why_eq]
  unfold F_interpreterref03_Why
  have hw := ev_within hS n
  (try simp only [guard_merge, or_merge, and_merge, or_pick, and_pick, guard_or, guard_and]); simp only [to_ob]
  unfold why4
  have e1 : Int.tmod (op.length : Int) 4 = ((op.length % 4 : Nat) : Int) := rfl
  have e2 : Int.tmod (da.length : Int) 8 = ((da.length % 8 : Nat) : Int) := rfl
  by_cases c1 : okB tos ∧ okB ttl ∧ okB pt ∧ (0 ≤ id ∧ id ≤ 65535) ∧ (0 ≤ at' ∧ at' ≤ 65528) ∧ Int.tmod at' 8 = 0
  · rw [if_pos c1]
    obtain ⟨⟨a1, a2⟩, ⟨a3, a4⟩, ⟨a5, a6⟩, ⟨c14, c15⟩, ⟨c16, c17⟩, c18⟩ := c1
    by_cases k1 : op.length ≤ 40
    · have k1' : ¬ 40 < (op.length : Int) := by omega
      have k5 : IntKind.i64.wrap (IntKind.i64.wrap (IntKind.i64.wrap (20 + (op.length : Int)) + at') + (da.length : Int)) = 20 + (op.length : Int) + at' + da.length := by
        rw [wrap_id (n := 20 + (op.length : Int)) (by omega) (by omega), wrap_id (n := 20 + (op.length : Int) + at') (by omega) (by omega), wrap_id (by omega) (by omega)]
      by_cases k2 : op.length % 4 = 0
      · have k2' : ((op.length % 4 : Nat) : Int) = 0 := by omega
        by_cases k6 : 20 + (op.length : Int) + at' + da.length ≤ 65535
        · have k6' : ¬ 65535 < 20 + (op.length : Int) + at' + da.length := by omega
          cases mo
          · simp only [go_sem, ↓reduceIte, reduceCtorEq, upd_ne, back_new (no_at), Nat.reduceAdd, Nat.reduceEqDiff, Nat.reduceMul, Nat.reduceSub, Nat.reduceLeDiff, Nat.reduceLT, Int.reduceToNat, Int.reduceLE, Int.reduceLT, Int.reduceEq, UInt8.reduceOfNat, hw, hfr, hto, a1, a2, a3, a4, a5, a6, c14, c15, c16, c17, c18, e1, e2, k1, k1', k2, k2', k5, k6, k6', false_implies]
          · by_cases k3 : da.length = 0
            · have k3' : (da.length : Int) = 0 := by omega
              simp only [go_sem, ↓reduceIte, reduceCtorEq, upd_ne, back_new (no_at), Nat.reduceAdd, Nat.reduceEqDiff, Nat.reduceMul, Nat.reduceSub, Nat.reduceLeDiff, Nat.reduceLT, Int.reduceToNat, Int.reduceLE, Int.reduceLT, Int.reduceEq, UInt8.reduceOfNat, hw, hfr, hto, a1, a2, a3, a4, a5, a6, c14, c15, c16, c17, c18, e1, e2, k1, k1', k2, k2', k3, k3', true_implies]
            · have k3' : ¬ (da.length : Int) = 0 := by omega
              by_cases k4 : da.length % 8 = 0
              · have k4' : ((da.length % 8 : Nat) : Int) = 0 := by omega
                simp only [go_sem, ↓reduceIte, reduceCtorEq, upd_ne, back_new (no_at), Nat.reduceAdd, Nat.reduceEqDiff, Nat.reduceMul, Nat.reduceSub, Nat.reduceLeDiff, Nat.reduceLT, Int.reduceToNat, Int.reduceLE, Int.reduceLT, Int.reduceEq, UInt8.reduceOfNat, hw, hfr, hto, a1, a2, a3, a4, a5, a6, c14, c15, c16, c17, c18, e1, e2, k1, k1', k2, k2', k3, k3', k4, k4', k5, k6, k6', true_implies]
              · have k4' : ¬ ((da.length % 8 : Nat) : Int) = 0 := by omega
                simp only [go_sem, ↓reduceIte, reduceCtorEq, upd_ne, back_new (no_at), Nat.reduceAdd, Nat.reduceEqDiff, Nat.reduceMul, Nat.reduceSub, Nat.reduceLeDiff, Nat.reduceLT, Int.reduceToNat, Int.reduceLE, Int.reduceLT, Int.reduceEq, UInt8.reduceOfNat, hw, hfr, hto, a1, a2, a3, a4, a5, a6, c14, c15, c16, c17, c18, e1, e2, k1, k1', k2, k2', k3, k3', k4, k4', true_implies]
        · have k6' : 65535 < 20 + (op.length : Int) + at' + da.length := by omega
          cases mo
          · simp only [go_sem, ↓reduceIte, reduceCtorEq, upd_ne, back_new (no_at), Nat.reduceAdd, Nat.reduceEqDiff, Nat.reduceMul, Nat.reduceSub, Nat.reduceLeDiff, Nat.reduceLT, Int.reduceToNat, Int.reduceLE, Int.reduceLT, Int.reduceEq, UInt8.reduceOfNat, hw, hfr, hto, a1, a2, a3, a4, a5, a6, c14, c15, c16, c17, c18, e1, e2, k1, k1', k2, k2', k5, k6, k6', false_implies]
          · by_cases k3 : da.length = 0
            · have k3' : (da.length : Int) = 0 := by omega
              simp only [go_sem, ↓reduceIte, reduceCtorEq, upd_ne, back_new (no_at), Nat.reduceAdd, Nat.reduceEqDiff, Nat.reduceMul, Nat.reduceSub, Nat.reduceLeDiff, Nat.reduceLT, Int.reduceToNat, Int.reduceLE, Int.reduceLT, Int.reduceEq, UInt8.reduceOfNat, hw, hfr, hto, a1, a2, a3, a4, a5, a6, c14, c15, c16, c17, c18, e1, e2, k1, k1', k2, k2', k3, k3', true_implies]
            · have k3' : ¬ (da.length : Int) = 0 := by omega
              by_cases k4 : da.length % 8 = 0
              · have k4' : ((da.length % 8 : Nat) : Int) = 0 := by omega
                simp only [go_sem, ↓reduceIte, reduceCtorEq, upd_ne, back_new (no_at), Nat.reduceAdd, Nat.reduceEqDiff, Nat.reduceMul, Nat.reduceSub, Nat.reduceLeDiff, Nat.reduceLT, Int.reduceToNat, Int.reduceLE, Int.reduceLT, Int.reduceEq, UInt8.reduceOfNat, hw, hfr, hto, a1, a2, a3, a4, a5, a6, c14, c15, c16, c17, c18, e1, e2, k1, k1', k2, k2', k3, k3', k4, k4', k5, k6, k6', true_implies]
              · have k4' : ¬ ((da.length % 8 : Nat) : Int) = 0 := by omega
                simp only [go_sem, ↓reduceIte, reduceCtorEq, upd_ne, back_new (no_at), Nat.reduceAdd, Nat.reduceEqDiff, Nat.reduceMul, Nat.reduceSub, Nat.reduceLeDiff, Nat.reduceLT, Int.reduceToNat, Int.reduceLE, Int.reduceLT, Int.reduceEq, UInt8.reduceOfNat, hw, hfr, hto, a1, a2, a3, a4, a5, a6, c14, c15, c16, c17, c18, e1, e2, k1, k1', k2, k2', k3, k3', k4, k4', true_implies]
      · have k2' : ¬ ((op.length % 4 : Nat) : Int) = 0 := by omega
        simp only [go_sem, ↓reduceIte, reduceCtorEq, upd_ne, back_new (no_at), Nat.reduceAdd, Nat.reduceEqDiff, Nat.reduceMul, Nat.reduceSub, Nat.reduceLeDiff, Nat.reduceLT, Int.reduceToNat, Int.reduceLE, Int.reduceLT, Int.reduceEq, UInt8.reduceOfNat, hw, hfr, hto, a1, a2, a3, a4, a5, a6, c14, c15, c16, c17, c18, e1, e2, k1, k1', k2, k2']
    · have k1' : 40 < (op.length : Int) := by omega
      simp only [go_sem, ↓reduceIte, reduceCtorEq, upd_ne, back_new (no_at), Nat.reduceAdd, Nat.reduceEqDiff, Nat.reduceMul, Nat.reduceSub, Nat.reduceLeDiff, Nat.reduceLT, Int.reduceToNat, Int.reduceLE, Int.reduceLT, Int.reduceEq, UInt8.reduceOfNat, hw, hfr, hto, a1, a2, a3, a4, a5, a6, c14, c15, c16, c17, c18, e1, e2, k1, k1']
  · rw [if_neg c1]
    by_cases b1 : okB tos
    · by_cases b2 : okB ttl
      · by_cases b3 : okB pt
        · by_cases b4 : 0 ≤ id ∧ id ≤ 65535
          · by_cases b5 : 0 ≤ at' ∧ at' ≤ 65528
            · have b6 : ¬ Int.tmod at' 8 = 0 := fun h => c1 ⟨b1, b2, b3, b4, b5, h⟩
              simp only [go_sem, ↓reduceIte, reduceCtorEq, upd_ne, back_new (no_at), Nat.reduceAdd, Nat.reduceEqDiff, Nat.reduceMul, Nat.reduceSub, Nat.reduceLeDiff, Nat.reduceLT, Int.reduceToNat, Int.reduceLE, Int.reduceLT, Int.reduceEq, UInt8.reduceOfNat, hw, hfr, hto, decide_eq_true b1, decide_eq_true b2, decide_eq_true b3, decide_eq_true b4, decide_eq_true b5, b6]
            · simp only [go_sem, ↓reduceIte, reduceCtorEq, upd_ne, back_new (no_at), Nat.reduceAdd, Nat.reduceEqDiff, Nat.reduceMul, Nat.reduceSub, Nat.reduceLeDiff, Nat.reduceLT, Int.reduceToNat, Int.reduceLE, Int.reduceLT, Int.reduceEq, UInt8.reduceOfNat, hw, hfr, hto, decide_eq_true b1, decide_eq_true b2, decide_eq_true b3, decide_eq_true b4, decide_eq_false b5]
          · simp only [go_sem, ↓reduceIte, reduceCtorEq, upd_ne, back_new (no_at), Nat.reduceAdd, Nat.reduceEqDiff, Nat.reduceMul, Nat.reduceSub, Nat.reduceLeDiff, Nat.reduceLT, Int.reduceToNat, Int.reduceLE, Int.reduceLT, Int.reduceEq, UInt8.reduceOfNat, hw, hfr, hto, decide_eq_true b1, decide_eq_true b2, decide_eq_true b3, decide_eq_false b4]
        · simp only [go_sem, ↓reduceIte, reduceCtorEq, upd_ne, back_new (no_at), Nat.reduceAdd, Nat.reduceEqDiff, Nat.reduceMul, Nat.reduceSub, Nat.reduceLeDiff, Nat.reduceLT, Int.reduceToNat, Int.reduceLE, Int.reduceLT, Int.reduceEq, UInt8.reduceOfNat, hw, hfr, hto, decide_eq_true b1, decide_eq_true b2, decide_eq_false b3]
      · simp only [go_sem, ↓reduceIte, reduceCtorEq, upd_ne, back_new (no_at), Nat.reduceAdd, Nat.reduceEqDiff, Nat.reduceMul, Nat.reduceSub, Nat.reduceLeDiff, Nat.reduceLT, Int.reduceToNat, Int.reduceLE, Int.reduceLT, Int.reduceEq, UInt8.reduceOfNat, hw, hfr, hto, decide_eq_true b1, decide_eq_false b2]
    · simp only [go_sem, ↓reduceIte, reduceCtorEq, upd_ne, back_new (no_at), Nat.reduceAdd, Nat.reduceEqDiff, Nat.reduceMul, Nat.reduceSub, Nat.reduceLeDiff, Nat.reduceLT, Int.reduceToNat, Int.reduceLE, Int.reduceLT, Int.reduceEq, UInt8.reduceOfNat, hw, hfr, hto, decide_eq_false b1]
end
end Go.Ev

namespace Go.Ev
set_option linter.unusedSimpArgs false
set_option linter.unusedVariables false
set_option maxRecDepth 10000
set_option maxHeartbeats 8000000
def numN (l : List UInt8) : Nat := l.foldl (fun x c => x * 256 + c.toNat) 0
theorem numN_snoc (l : List UInt8) (c : UInt8) : numN (l ++ [c]) = numN l * 256 + c.toNat := by simp [numN]
theorem numN_lt' : ∀ (l : List UInt8) (x : Nat), l.foldl (fun x c => x * 256 + c.toNat) x < (x + 1) * 256 ^ l.length
  | [], x => by simp
  | c :: l, x => by
    have h := numN_lt' l (x * 256 + c.toNat)
    have hc := c.toNat_lt
    have h2 : (x * 256 + c.toNat + 1) * 256 ^ l.length ≤ ((x + 1) * 256) * 256 ^ l.length := Nat.mul_le_mul_right _ (by omega)
    rw [List.foldl_cons, List.length_cons, Nat.pow_succ, Nat.mul_comm (256 ^ l.length) 256, ← Nat.mul_assoc]
    omega
theorem numN_lt (l : List UInt8) : numN l < 256 ^ l.length := by
  have := numN_lt' l 0
  unfold numN
  omega
abbrev rdLV (s : List UInt8) (a : Nat) : LV := .agg [.str s, .int .i64 (a : Int), .int .i64 0, .int .i64 0]
theorem drop_take_one {s : List UInt8} {i : Nat} {c : UInt8} (h : s[i]? = some c) : (s.drop i).take 1 = [c] := by
  obtain ⟨hi, rfl⟩ := List.getElem?_eq_some_iff.1 h
  rw [List.drop_eq_getElem_cons hi]; rfl
theorem drop_take_snoc {s : List UInt8} {a i : Nat} {c : UInt8} (h : s[a + i]? = some c) : (s.drop a).take (i + 1) = (s.drop a).take i ++ [c] := by
  rw [List.take_add_one, List.getElem?_drop, h]; rfl
theorem numN_two {s : List UInt8} {i : Nat} (h : i + 2 ≤ s.length) : numN ((s.drop i).take 2) = wAt s i := by
  have ha := get_def (s := s) (i := i) (by omega)
  have hb := get_def (s := s) (i := i + 1) (by omega)
  rw [drop_take_snoc hb, show (s.drop i).take 1 = [s.getD i 0] from drop_take_one ha]
  simp only [numN, List.foldl_cons, List.foldl_nil, List.cons_append, List.nil_append, wAt, w16]
  omega
theorem sub_get {s : List UInt8} {a i m : Nat} (h : i < m) (hl : a + i < s.length) : ((s.drop a).take m)[i]? = some (s.getD (a + i) 0) := by
  rw [List.getElem?_take_of_lt h, List.getElem?_drop, get_def hl]
theorem num4_lt (s : List UInt8) : numN (s.take 4) < 4294967296 := by
  have h := numN_lt (s.take 4)
  have h2 : 256 ^ (s.take 4).length ≤ 256 ^ 4 := Nat.pow_le_pow_right (by decide) (by rw [List.length_take]; omega)
  have h3 : (256 : Nat) ^ 4 = 4294967296 := by decide
  omega
end Go.Ev

namespace Go.Ev
set_option linter.unusedSimpArgs false
set_option linter.unusedVariables false
set_option maxRecDepth 4000
set_option maxHeartbeats 2000000
section
variable {S : Sys} (hS : Has S) (n : Nat)
include hS
theorem ev_rText (s : List UInt8) (a m : Nat) (h : a + m ≤ s.length) (hs : s.length ≤ 140737488351232) :
    S.ev (n + 1) id_interpreterref01_Reader_Text [.ptr 0 0 [] 0, .int .i64 (m : Int)] (some (rdLV s a)) = some (.tup [.str ((s.drop a).take m), .int .i64 0], some (rdLV s (a + m))) := by
  rw [Sys.step hS.h_interpreterref01_Reader_Text, F_interpreterref01_Reader_Text_eq]
  unfold F_interpreterref01_Reader_Text F_interpreterref01_Reader_Text_k2 F_interpreterref01_Reader_Text_k1
  (try simp only [guard_merge, or_merge, and_merge, or_pick, and_pick, guard_or, guard_and]); simp only [to_ob]
  have f1 : ¬ (m : Int) < 0 := by omega
  have f2 : ¬ (s.length : Int) < (m : Int) := by omega
  have e1 : IntKind.i64.wrap ((s.length : Int) - (m : Int)) = ((s.length - m : Nat) : Int) := by rw [wrap_id (by omega) (by omega)]; omega
  have f3 : ¬ ((s.length - m : Nat) : Int) < (a : Int) := by omega
  simp only [go_sem, ↓reduceIte, reduceCtorEq, upd_ne, back_new (no_at), Nat.reduceAdd, Nat.reduceEqDiff, Nat.reduceMul, Nat.reduceSub, Nat.reduceLeDiff, Nat.reduceLT, Int.reduceToNat, Int.reduceLE, Int.reduceLT, Int.reduceEq, UInt8.reduceOfNat, f1, f2, e1, f3]
  refine while_rule (fun k q => ∃ i : Nat, i + k = m ∧ q = ([.str ((s.drop a).take i), .int .i64 (i : Int)], upd noSlots 0 (.obj 0 (rdLV s (a + i))))) m ⟨0, by omega, by simp⟩ ?_
  rintro k q ⟨i, hi, rfl⟩
  simp only [go_sem, ↓reduceIte, reduceCtorEq, upd_ne, back_new (no_at), Nat.reduceAdd, Nat.reduceEqDiff, Nat.reduceMul, Nat.reduceSub, Nat.reduceLeDiff, Nat.reduceLT, Int.reduceToNat, Int.reduceLE, Int.reduceLT, Int.reduceEq, UInt8.reduceOfNat]
  refine nxt_ite (fun h => ?_) (fun h => ?_)
  · have hlt : a + i < s.length := by omega
    obtain ⟨c, hc⟩ : ∃ c, s[a + i]? = some c := ⟨s[a + i], by simp [hlt]⟩
    have e2 : IntKind.i64.wrap (((a + i : Nat) : Int) + 1) = ((a + i + 1 : Nat) : Int) := by rw [wrap_id (by omega) (by omega)]; omega
    have e3 : IntKind.i64.wrap ((i : Int) + 1) = ((i + 1 : Nat) : Int) := by rw [wrap_id (by omega) (by omega)]; omega
    have f4 : a + i + 1 ≤ s.length := by omega
    have f5 : a + i ≤ a + i + 1 := by omega
    have e4 : (s.drop (a + i)).take (a + i + 1 - (a + i)) = [c] := by rw [show a + i + 1 - (a + i) = 1 by omega, drop_take_one hc]
    have f6 : min i (s.length - a) + (0 + 1) ≤ maxStr := by unfold maxStr; omega
    have f6' : min i (s.length - a) + 1 ≤ maxStr := by unfold maxStr; omega
    simp only [go_sem, ↓reduceIte, reduceCtorEq, upd_ne, back_new (no_at), Nat.reduceAdd, Nat.reduceEqDiff, Nat.reduceMul, Nat.reduceSub, Nat.reduceLeDiff, Nat.reduceLT, Int.reduceToNat, Int.reduceLE, Int.reduceLT, Int.reduceEq, UInt8.reduceOfNat, List.getElem?_map, Int.toNat_natCast, ↓e_sadd, e2, e3, f4, f5, e4, f6, f6', List.length_take, List.length_drop]
    exact ⟨k - 1, by omega, i + 1, by omega, by rw [drop_take_snoc hc]; rfl⟩
  · obtain rfl : i = m := by omega
    simp only [go_sem, ↓reduceIte, reduceCtorEq, upd_ne, back_new (no_at), Nat.reduceAdd, Nat.reduceEqDiff, Nat.reduceMul, Nat.reduceSub, Nat.reduceLeDiff, Nat.reduceLT, Int.reduceToNat, Int.reduceLE, Int.reduceLT, Int.reduceEq, UInt8.reduceOfNat, Nxt, exIf]
theorem ev_rNumber (s : List UInt8) (a m : Nat) (h : a + m ≤ s.length) (hm : m ≤ 4) (hs : s.length ≤ 140737488351232) :
    S.ev (n + 2) id_interpreterref01_Reader_Number [.ptr 0 0 [] 0, .int .i64 (m : Int)] (some (rdLV s a)) = some (.tup [.int .i64 ((numN ((s.drop a).take m) : Nat) : Int), .int .i64 0], some (rdLV s (a + m))) := by
  rw [Sys.step hS.h_interpreterref01_Reader_Number, F_interpreterref01_Reader_Number_eq]
  unfold F_interpreterref01_Reader_Number
  have ht := ev_rText hS n s a m h hs
  (try simp only [guard_merge, or_merge, and_merge, or_pick, and_pick, guard_or, guard_and]); simp only [to_ob]
  simp only [go_sem, ↓reduceIte, reduceCtorEq, upd_ne, back_new (no_at), Nat.reduceAdd, Nat.reduceEqDiff, Nat.reduceMul, Nat.reduceSub, Nat.reduceLeDiff, Nat.reduceLT, Int.reduceToNat, Int.reduceLE, Int.reduceLT, Int.reduceEq, UInt8.reduceOfNat, ht]
  have hul : ((s.drop a).take m).length = m := by rw [List.length_take, List.length_drop]; omega
  generalize (s.drop a).take m = u at *
  refine while_rule (fun k q => ∃ i : Nat, i + k = m ∧ q = ([.int .i64 ((numN (u.take i) : Nat) : Int), .int .i64 (i : Int)], upd noSlots 0 (.obj 0 (rdLV s (a + m))))) m ⟨0, by omega, by simp [numN]⟩ ?_
  rintro k q ⟨i, hi, rfl⟩
  simp only [go_sem, ↓reduceIte, reduceCtorEq, upd_ne, back_new (no_at), Nat.reduceAdd, Nat.reduceEqDiff, Nat.reduceMul, Nat.reduceSub, Nat.reduceLeDiff, Nat.reduceLT, Int.reduceToNat, Int.reduceLE, Int.reduceLT, Int.reduceEq, UInt8.reduceOfNat, hul]
  refine nxt_ite (fun h => ?_) (fun h => ?_)
  · have hlt : i < u.length := by omega
    obtain ⟨c, hc⟩ : ∃ c, u[i]? = some c := ⟨u[i], by simp [hlt]⟩
    have htk : u.take (i + 1) = u.take i ++ [c] := by rw [List.take_add_one, hc]; rfl
    have hb := numN_lt (u.take i)
    have hb2 : 256 ^ (u.take i).length ≤ 256 ^ 3 := Nat.pow_le_pow_right (by decide) (by rw [List.length_take]; omega)
    have hb3 : (256 : Nat) ^ 3 = 16777216 := by decide
    have hcl := c.toNat_lt
    have e1 : IntKind.i64.wrap (((numN (u.take i) : Nat) : Int) * 256) = ((numN (u.take i) * 256 : Nat) : Int) := by rw [wrap_id (by omega) (by omega)]; omega
    have e2 : IntKind.i64.wrap (c.toNat : Int) = (c.toNat : Int) := wrap_id (by omega) (by omega)
    have e3 : IntKind.i64.wrap (((numN (u.take i) * 256 : Nat) : Int) + (c.toNat : Int)) = ((numN (u.take i) * 256 + c.toNat : Nat) : Int) := by rw [wrap_id (by omega) (by omega)]; omega
    have e4 : IntKind.i64.wrap ((i : Int) + 1) = ((i + 1 : Nat) : Int) := by rw [wrap_id (by omega) (by omega)]; omega
    simp only [go_sem, ↓reduceIte, reduceCtorEq, upd_ne, back_new (no_at), Nat.reduceAdd, Nat.reduceEqDiff, Nat.reduceMul, Nat.reduceSub, Nat.reduceLeDiff, Nat.reduceLT, Int.reduceToNat, Int.reduceLE, Int.reduceLT, Int.reduceEq, UInt8.reduceOfNat, List.getElem?_map, Int.toNat_natCast, hc, e1, e2, e3, e4]
    exact ⟨k - 1, by omega, i + 1, by omega, by rw [htk, numN_snoc]⟩
  · obtain rfl : i = m := by omega
    rw [List.take_of_length_le (by omega)]
    simp only [go_sem, ↓reduceIte, reduceCtorEq, upd_ne, back_new (no_at), Nat.reduceAdd, Nat.reduceEqDiff, Nat.reduceMul, Nat.reduceSub, Nat.reduceLeDiff, Nat.reduceLT, Int.reduceToNat, Int.reduceLE, Int.reduceLT, Int.reduceEq, UInt8.reduceOfNat, Nxt, exIf]
end
end Go.Ev

namespace Go.Ev
set_option linter.unusedSimpArgs false
set_option linter.unusedVariables false
set_option maxRecDepth 4000
set_option maxHeartbeats 4000000
section
variable {S : Sys} (hS : Has S) (n : Nat)
include hS
theorem ev_number3 (s : List UInt8) (i : Nat) (h : i + 2 ≤ s.length) (hs : s.length ≤ 140737488351232) : S.ev (n + 3) id_interpreterref03_number [.str s, .int .i64 (i : Int)] none = some (.int .i64 (wAt s i : Nat), none) := by
  rw [Sys.step hS.h_interpreterref03_number, F_interpreterref03_number_eq]
  unfold F_interpreterref03_number
  have ht : S.ev (n + 2) id_interpreterref01_Reader_Number [.ptr 0 0 [] 0, .int .i64 2] (some (rdLV s i)) = some (.tup [.int .i64 ((numN ((s.drop i).take 2) : Nat) : Int), .int .i64 0], some (rdLV s (i + 2))) := ev_rNumber hS n s i 2 h (by omega) hs
  rw [numN_two h] at ht
  simp only [to_ob]
  simp only [go_sem, ↓reduceIte, reduceCtorEq, upd_ne, back_new (no_at), Nat.reduceAdd, Nat.reduceEqDiff, Nat.reduceMul, Nat.reduceSub, Nat.reduceLeDiff, Nat.reduceLT, Int.reduceToNat, Int.reduceLE, Int.reduceLT, Int.reduceEq, UInt8.reduceOfNat, ht]
theorem ev_rparse3 (s : List UInt8) (hs : s.length ≤ 1000000) : S.ev (n + 4) id_interpreterref03_Parse [.str s] none = some (.tup [pLV4 s, .int .i64 (pK4 s)], none) := by
  rw [Sys.step hS.h_interpreterref03_Parse, F_interpreterref03_Parse_eq]
  unfold F_interpreterref03_Parse
  (try simp only [guard_merge, or_merge, and_merge, or_pick, and_pick, guard_or, guard_and]); simp only [to_ob]
  unfold pLV4 pK4
  by_cases c1 : s.length < 20
  · have c1' : (s.length : Int) < 20 := by omega
    simp only [go_sem, ↓reduceIte, reduceCtorEq, upd_ne, back_new (no_at), Nat.reduceAdd, Nat.reduceEqDiff, Nat.reduceMul, Nat.reduceSub, Nat.reduceLeDiff, Nat.reduceLT, Int.reduceToNat, Int.reduceLE, Int.reduceLT, Int.reduceEq, UInt8.reduceOfNat, c1, c1']
  · have c1' : ¬ (s.length : Int) < 20 := by omega
    have g0 := get_def (s := s) (i := 0) (by omega)
    have hb0 := bAt_le s 0
    have e1 : IntKind.i64.wrap ((s.getD 0 0).toNat : Int) = ((bAt s 0 : Nat) : Int) := wrap_id (by omega) (by unfold bAt at hb0; omega)
    have e2 : IntKind.i64.wrap (4 * IntKind.i64.wrap (((bAt s 0 : Nat) : Int) - 64)) = 4 * (((bAt s 0 : Nat) : Int) - 64) := by
      rw [wrap_id (n := ((bAt s 0 : Nat) : Int) - 64) (by omega) (by omega), wrap_id (by omega) (by omega)]
    by_cases c2 : bAt s 0 / 16 ≠ 4 ∨ n4 s < 20
    · rw [if_neg c1, if_pos c2]
      by_cases c2a : 4 * (((bAt s 0 : Nat) : Int) - 64) < 20
      · simp only [go_sem, ↓reduceIte, reduceCtorEq, upd_ne, back_new (no_at), Nat.reduceAdd, Nat.reduceEqDiff, Nat.reduceMul, Nat.reduceSub, Nat.reduceLeDiff, Nat.reduceLT, Int.reduceToNat, Int.reduceLE, Int.reduceLT, Int.reduceEq, UInt8.reduceOfNat, List.getElem?_map, Int.toNat_natCast, c1', c2a, g0, byteLV, e1, e2]
      · have c2b : 60 < 4 * (((bAt s 0 : Nat) : Int) - 64) := by unfold n4 at c2; omega
        simp only [go_sem, ↓reduceIte, reduceCtorEq, upd_ne, back_new (no_at), Nat.reduceAdd, Nat.reduceEqDiff, Nat.reduceMul, Nat.reduceSub, Nat.reduceLeDiff, Nat.reduceLT, Int.reduceToNat, Int.reduceLE, Int.reduceLT, Int.reduceEq, UInt8.reduceOfNat, List.getElem?_map, Int.toNat_natCast, c1', c2a, c2b, g0, byteLV, e1, e2]
    · have hn : 4 * (((bAt s 0 : Nat) : Int) - 64) = ((n4 s : Nat) : Int) := by unfold n4 at c2 ⊢; omega
      rw [hn] at e2
      have c2a : ¬ ((n4 s : Nat) : Int) < 20 := by omega
      have c2b : ¬ 60 < ((n4 s : Nat) : Int) := by unfold n4; omega
      by_cases c3 : s.length < n4 s
      · have c3' : (s.length : Int) < ((n4 s : Nat) : Int) := by omega
        simp only [go_sem, ↓reduceIte, reduceCtorEq, upd_ne, back_new (no_at), Nat.reduceAdd, Nat.reduceEqDiff, Nat.reduceMul, Nat.reduceSub, Nat.reduceLeDiff, Nat.reduceLT, Int.reduceToNat, Int.reduceLE, Int.reduceLT, Int.reduceEq, UInt8.reduceOfNat, List.getElem?_map, Int.toNat_natCast, c1, c1', c2, c2a, c2b, c3, c3', g0, byteLV, e1, e2]
      · have c3' : ¬ (s.length : Int) < ((n4 s : Nat) : Int) := by omega
        have c3'' : n4 s ≤ s.length := by omega
        have hr := ev_rOf hS (n + 1) (s.take (n4 s)) (by rw [List.length_take]; omega)
        have hr : S.ev (n + 3) id_interpreterref02_Of [.str (s.take (n4 s))] none = some (.int .i64 (sumS (s.take (n4 s))), none) := hr
        by_cases c4 : sumS (s.take (n4 s)) = 0
        · have t2 : S.ev (n + 3) id_interpreterref03_number [.str s, .int .i64 2] none = some (.int .i64 (wAt s 2 : Nat), none) := ev_number3 hS n s 2 (by omega) (by omega)
          have t6 : S.ev (n + 3) id_interpreterref03_number [.str s, .int .i64 6] none = some (.int .i64 (wAt s 6 : Nat), none) := ev_number3 hS n s 6 (by omega) (by omega)
          have t4 : S.ev (n + 3) id_interpreterref03_number [.str s, .int .i64 4] none = some (.int .i64 (wAt s 4 : Nat), none) := ev_number3 hS n s 4 (by omega) (by omega)
          by_cases c5 : wAt s 2 < n4 s
          · have c5' : ((wAt s 2 : Nat) : Int) < ((n4 s : Nat) : Int) := by omega
            simp only [go_sem, ↓reduceIte, reduceCtorEq, upd_ne, back_new (no_at), Nat.reduceAdd, Nat.reduceEqDiff, Nat.reduceMul, Nat.reduceSub, Nat.reduceLeDiff, Nat.reduceLT, Int.reduceToNat, Int.reduceLE, Int.reduceLT, Int.reduceEq, UInt8.reduceOfNat, List.getElem?_map, Int.toNat_natCast, Nat.sub_zero, c1, c1', c2, c2a, c2b, c3, c3', c3'', c4, hr, t2, t6, c5, c5', g0, byteLV, e1, e2]
          · have c5' : ¬ ((wAt s 2 : Nat) : Int) < ((n4 s : Nat) : Int) := by omega
            have c5'' : n4 s ≤ wAt s 2 := by omega
            by_cases c6 : s.length < wAt s 2
            · have c6' : (s.length : Int) < ((wAt s 2 : Nat) : Int) := by omega
              simp only [go_sem, ↓reduceIte, reduceCtorEq, upd_ne, back_new (no_at), Nat.reduceAdd, Nat.reduceEqDiff, Nat.reduceMul, Nat.reduceSub, Nat.reduceLeDiff, Nat.reduceLT, Int.reduceToNat, Int.reduceLE, Int.reduceLT, Int.reduceEq, UInt8.reduceOfNat, List.getElem?_map, Int.toNat_natCast, Nat.sub_zero, c1, c1', c2, c2a, c2b, c3, c3', c3'', c4, hr, t2, t6, c5, c5', c6, c6', g0, byteLV, e1, e2]
            · have c6' : ¬ (s.length : Int) < ((wAt s 2 : Nat) : Int) := by omega
              have c6'' : wAt s 2 ≤ s.length := by omega
              have g1 := get_def (s := s) (i := 1) (by omega)
              have g8 := get_def (s := s) (i := 8) (by omega)
              have g9 := get_def (s := s) (i := 9) (by omega)
              have hb1 := bAt_le s 1
              have hb8 := bAt_le s 8
              have hb9 := bAt_le s 9
              have hw6 := wAt_le s 6
              have w1 : IntKind.i64.wrap ((s.getD 1 0).toNat : Int) = ((bAt s 1 : Nat) : Int) := wrap_id (by omega) (by unfold bAt at hb1; omega)
              have w8 : IntKind.i64.wrap ((s.getD 8 0).toNat : Int) = ((bAt s 8 : Nat) : Int) := wrap_id (by omega) (by unfold bAt at hb8; omega)
              have w9 : IntKind.i64.wrap ((s.getD 9 0).toNat : Int) = ((bAt s 9 : Nat) : Int) := wrap_id (by omega) (by unfold bAt at hb9; omega)
              have f1 : IntKind.i64.wrap (Int.tmod ((wAt s 6 : Nat) : Int) 8192 * 8) = pat4 s := by
                rw [show Int.tmod ((wAt s 6 : Nat) : Int) 8192 = ((wAt s 6 % 8192 : Nat) : Int) from rfl, wrap_id (by omega) (by omega)]; unfold pat4; omega
              have f2 : IntKind.i64.wrap (Int.tdiv ((wAt s 6 : Nat) : Int) 16384) = ((wAt s 6 / 16384 : Nat) : Int) := by
                rw [show Int.tdiv ((wAt s 6 : Nat) : Int) 16384 = ((wAt s 6 / 16384 : Nat) : Int) from rfl, wrap_id (by omega) (by omega)]
              have f3 : IntKind.i64.wrap (Int.tdiv ((wAt s 6 : Nat) : Int) 8192) = ((wAt s 6 / 8192 : Nat) : Int) := by
                rw [show Int.tdiv ((wAt s 6 : Nat) : Int) 8192 = ((wAt s 6 / 8192 : Nat) : Int) from rfl, wrap_id (by omega) (by omega)]
              have f4 : decide (Int.tmod ((wAt s 6 / 16384 : Nat) : Int) 2 = 1) = pdf4 s := by
                rw [show Int.tmod ((wAt s 6 / 16384 : Nat) : Int) 2 = ((wAt s 6 / 16384 % 2 : Nat) : Int) from rfl]; unfold pdf4; exact decide_eq_decide.2 (by omega)
              have f5 : decide (Int.tmod ((wAt s 6 / 8192 : Nat) : Int) 2 = 1) = pmo4 s := by
                rw [show Int.tmod ((wAt s 6 / 8192 : Nat) : Int) 2 = ((wAt s 6 / 8192 % 2 : Nat) : Int) from rfl]; unfold pmo4; exact decide_eq_decide.2 (by omega)
              have l20 : 20 ≤ n4 s := by omega
              have hlf : (pfr4 s).length = 4 := by unfold pfr4; simp; omega
              have hlt : (pto4 s).length = 4 := by unfold pto4; simp; omega
              have hwy := ev_Why3 hS (n + 1) (tos := (bAt s 1 : Nat)) (id := (wAt s 4 : Nat)) (ttl := (bAt s 8 : Nat)) (pt := (bAt s 9 : Nat)) (at' := pat4 s) (df := pdf4 s) (mo := pmo4 s) (op := pop4 s) (da := pda4 s) hlf hlt (by unfold pop4; simp; omega) (by unfold pda4; simp; omega)
              have hwy : S.ev (n + 3) id_interpreterref03_Why [ip4LV (bAt s 1 : Nat) (wAt s 4 : Nat) (bAt s 8 : Nat) (bAt s 9 : Nat) (pat4 s) (pdf4 s) (pmo4 s) (pfr4 s) (pto4 s) (pop4 s) (pda4 s)] none = some (.int .i64 (pwhy4 s), none) := hwy
              have v3 : (s.drop 20).take (n4 s - 20) = pop4 s := rfl
              have v4 : (s.drop (n4 s)).take (wAt s 2 - n4 s) = pda4 s := rfl
              simp only [go_sem, ↓reduceIte, reduceCtorEq, upd_ne, back_new (no_at), Nat.reduceAdd, Nat.reduceEqDiff, Nat.reduceMul, Nat.reduceSub, Nat.reduceLeDiff, Nat.reduceLT, Int.reduceToNat, Int.reduceLE, Int.reduceLT, Int.reduceEq, UInt8.reduceOfNat, List.getElem?_map, Int.toNat_natCast, Nat.sub_zero, c1, c1', c2, c2a, c2b, c3, c3', c3'', c4, hr, t2, t6, t4, c5, c5', c5'', c6, c6', c6'', l20, g0, g1, g8, g9, byteLV, e1, e2, w1, w8, w9, f1, f2, f3, f4, f5, v3, v4]
              have r0 : ([0, 0, 0, 0] : List UInt8) = List.replicate (4 - 0) 0 := rfl
              refine while_rule (fun k q => ∃ i : Nat, i + k = 4 ∧ q = ([.int .i64 (i : Int)], upd (upd (upd noSlots 2 (.obj 1 z4LV)) 4 (.obj 1 z4LV)) 8 (.obj 1 (ip4LV (bAt s 1 : Nat) (wAt s 4 : Nat) (bAt s 8 : Nat) (bAt s 9 : Nat) (pat4 s) (pdf4 s) (pmo4 s) ((pfr4 s).take i ++ List.replicate (4 - i) 0) ((pto4 s).take i ++ List.replicate (4 - i) 0) (pop4 s) (pda4 s))))) 4 ⟨0, rfl, by simp⟩ ?_
              rintro k q ⟨i, hi, rfl⟩
              simp only [go_sem, ↓reduceIte, reduceCtorEq, upd_ne, back_new (no_at), Nat.reduceAdd, Nat.reduceEqDiff, Nat.reduceMul, Nat.reduceSub, Nat.reduceLeDiff, Nat.reduceLT, Int.reduceToNat, Int.reduceLE, Int.reduceLT, Int.reduceEq, UInt8.reduceOfNat]
              refine nxt_ite (fun h => ?_) (fun h => ?_)
              · have hi4 : i < 4 := by omega
                have ga := get_def (s := s) (i := 12 + i) (by omega)
                have gb := get_def (s := s) (i := 16 + i) (by omega)
                have i1 : IntKind.i64.wrap (12 + (i : Int)) = ((12 + i : Nat) : Int) := by rw [wrap_id (by omega) (by omega)]; omega
                have i2 : IntKind.i64.wrap (16 + (i : Int)) = ((16 + i : Nat) : Int) := by rw [wrap_id (by omega) (by omega)]; omega
                have i3 : IntKind.i64.wrap ((i : Int) + 1) = ((i + 1 : Nat) : Int) := by rw [wrap_id (by omega) (by omega)]; omega
                have hla : ((pfr4 s).take i ++ List.replicate (4 - i) 0).length = 4 := by rw [List.length_append, List.length_take, List.length_replicate]; omega
                have hlb : ((pto4 s).take i ++ List.replicate (4 - i) 0).length = 4 := by rw [List.length_append, List.length_take, List.length_replicate]; omega
                obtain ⟨ca, hca⟩ : ∃ c0, ((pfr4 s).take i ++ List.replicate (4 - i) 0)[i]? = some c0 := ⟨_, List.getElem?_eq_getElem (by omega)⟩
                obtain ⟨cb, hcb⟩ : ∃ c0, ((pto4 s).take i ++ List.replicate (4 - i) 0)[i]? = some c0 := ⟨_, List.getElem?_eq_getElem (by omega)⟩
                have sa := set_mid hlf hi4 (sub_get (s := s) (a := 12) (m := 4) hi4 (by omega))
                have sb := set_mid hlt hi4 (sub_get (s := s) (a := 16) (m := 4) hi4 (by omega))
                have hla2 : ((pfr4 s).take (i + 1) ++ List.replicate (4 - (i + 1)) 0).length = 4 := by rw [List.length_append, List.length_take, List.length_replicate]; omega
                simp only [go_sem, ↓reduceIte, reduceCtorEq, upd_ne, back_new (no_at), Nat.reduceAdd, Nat.reduceEqDiff, Nat.reduceMul, Nat.reduceSub, Nat.reduceLeDiff, Nat.reduceLT, Int.reduceToNat, Int.reduceLE, Int.reduceLT, Int.reduceEq, UInt8.reduceOfNat, List.getElem?_map, Int.toNat_natCast, ga, gb, i1, i2, i3, hla, hlb, hla2, hca, hcb, sa, sb, hi4, byteLV, u8_lt, UInt8.ofNat_toNat, Nat.mul_one, eq_self]
                exact ⟨k - 1, by omega, i + 1, by omega, rfl⟩
              · obtain rfl : i = 4 := by omega
                have ta : (pfr4 s).take 4 ++ List.replicate (4 - 4) 0 = pfr4 s := by rw [List.take_of_length_le (by omega)]; simp
                have tb : (pto4 s).take 4 ++ List.replicate (4 - 4) 0 = pto4 s := by rw [List.take_of_length_le (by omega)]; simp
                rw [ta, tb]
                by_cases c7 : wAt s 6 < 32768
                · have c7' : ¬ 32768 ≤ ((wAt s 6 : Nat) : Int) := by omega
                  have c7'' : ¬ 32768 ≤ wAt s 6 := by omega
                  by_cases c8 : pwhy4 s = 0
                  · rw [c8] at hwy
                    simp only [go_sem, ↓reduceIte, reduceCtorEq, upd_ne, back_new (no_at), Nat.reduceAdd, Nat.reduceEqDiff, Nat.reduceMul, Nat.reduceSub, Nat.reduceLeDiff, Nat.reduceLT, Int.reduceToNat, Int.reduceLE, Int.reduceLT, Int.reduceEq, UInt8.reduceOfNat, Nxt, exIf, c7', c7'', hwy, hlf, hlt, c8]
                  · simp only [go_sem, ↓reduceIte, reduceCtorEq, upd_ne, back_new (no_at), Nat.reduceAdd, Nat.reduceEqDiff, Nat.reduceMul, Nat.reduceSub, Nat.reduceLeDiff, Nat.reduceLT, Int.reduceToNat, Int.reduceLE, Int.reduceLT, Int.reduceEq, UInt8.reduceOfNat, Nxt, exIf, c7', c7'', hwy, hlf, hlt, c8]
                · have c7' : 32768 ≤ ((wAt s 6 : Nat) : Int) := by omega
                  have c7'' : 32768 ≤ wAt s 6 := by omega
                  simp only [go_sem, ↓reduceIte, reduceCtorEq, upd_ne, back_new (no_at), Nat.reduceAdd, Nat.reduceEqDiff, Nat.reduceMul, Nat.reduceSub, Nat.reduceLeDiff, Nat.reduceLT, Int.reduceToNat, Int.reduceLE, Int.reduceLT, Int.reduceEq, UInt8.reduceOfNat, Nxt, exIf, c7', c7'', hlf, hlt]
        · simp only [go_sem, ↓reduceIte, reduceCtorEq, upd_ne, back_new (no_at), Nat.reduceAdd, Nat.reduceEqDiff, Nat.reduceMul, Nat.reduceSub, Nat.reduceLeDiff, Nat.reduceLT, Int.reduceToNat, Int.reduceLE, Int.reduceLT, Int.reduceEq, UInt8.reduceOfNat, List.getElem?_map, Int.toNat_natCast, Nat.sub_zero, c1, c1', c2, c2a, c2b, c3, c3', c3'', c4, hr, g0, byteLV, e1, e2]
end
end Go.Ev

namespace Go.Ev
set_option linter.unusedSimpArgs false
set_option linter.unusedVariables false
set_option maxRecDepth 10000
set_option maxHeartbeats 8000000
section
variable {S : Sys} (hS : Has S) (n : Nat)
include hS
theorem ev_number15 (s : List UInt8) (i : Nat) (h : i + 2 ≤ s.length) (hs : s.length ≤ 140737488351232) : S.ev (n + 3) id_interpreterref15_number [.str s, .int .i64 (i : Int), .int .i64 2] none = some (.int .i64 (wAt s i : Nat), none) := by
  rw [Sys.step hS.h_interpreterref15_number, F_interpreterref15_number_eq]
  unfold F_interpreterref15_number
  have ht : S.ev (n + 2) id_interpreterref01_Reader_Number [.ptr 0 0 [] 0, .int .i64 2] (some (rdLV s i)) = some (.tup [.int .i64 ((numN ((s.drop i).take 2) : Nat) : Int), .int .i64 0], some (rdLV s (i + 2))) := ev_rNumber hS n s i 2 h (by omega) hs
  rw [numN_two h] at ht
  simp only [to_ob]
  simp only [go_sem, ↓reduceIte, reduceCtorEq, upd_ne, back_new (no_at), Nat.reduceAdd, Nat.reduceEqDiff, Nat.reduceMul, Nat.reduceSub, Nat.reduceLeDiff, Nat.reduceLT, Int.reduceToNat, Int.reduceLE, Int.reduceLT, Int.reduceEq, UInt8.reduceOfNat, ht]
theorem ev_little (d : List UInt8) (c : Int) : S.ev (n + 1) id_interpreterref15_little [.str d, .int .i64 c] none = some (.bool (decide ((d.length : Int) < min 8 c)), none) := by
  rw [Sys.step hS.h_interpreterref15_little, F_interpreterref15_little_eq]
  unfold F_interpreterref15_little
  (try simp only [guard_merge, or_merge, and_merge, or_pick, and_pick, guard_or, guard_and]); simp only [to_ob]
  by_cases h1 : (d.length : Int) < 8 <;> by_cases h2 : (d.length : Int) < c
  · rw [decide_eq_true (p := (d.length : Int) < min 8 c) (by omega)]; simp only [go_sem, ↓reduceIte, reduceCtorEq, upd_ne, back_new (no_at), Nat.reduceAdd, Nat.reduceEqDiff, Nat.reduceMul, Nat.reduceSub, Nat.reduceLeDiff, Nat.reduceLT, Int.reduceToNat, Int.reduceLE, Int.reduceLT, Int.reduceEq, UInt8.reduceOfNat, h1, h2]
  · rw [decide_eq_false (p := (d.length : Int) < min 8 c) (by omega)]; simp only [go_sem, ↓reduceIte, reduceCtorEq, upd_ne, back_new (no_at), Nat.reduceAdd, Nat.reduceEqDiff, Nat.reduceMul, Nat.reduceSub, Nat.reduceLeDiff, Nat.reduceLT, Int.reduceToNat, Int.reduceLE, Int.reduceLT, Int.reduceEq, UInt8.reduceOfNat, h1, h2]
  · rw [decide_eq_false (p := (d.length : Int) < min 8 c) (by omega)]; simp only [go_sem, ↓reduceIte, reduceCtorEq, upd_ne, back_new (no_at), Nat.reduceAdd, Nat.reduceEqDiff, Nat.reduceMul, Nat.reduceSub, Nat.reduceLeDiff, Nat.reduceLT, Int.reduceToNat, Int.reduceLE, Int.reduceLT, Int.reduceEq, UInt8.reduceOfNat, h1, h2]
  · rw [decide_eq_false (p := (d.length : Int) < min 8 c) (by omega)]; simp only [go_sem, ↓reduceIte, reduceCtorEq, upd_ne, back_new (no_at), Nat.reduceAdd, Nat.reduceEqDiff, Nat.reduceMul, Nat.reduceSub, Nat.reduceLeDiff, Nat.reduceLT, Int.reduceToNat, Int.reduceLE, Int.reduceLT, Int.reduceEq, UInt8.reduceOfNat, h1, h2]
theorem ev_rinside4 (s : List UInt8) (hs : s.length ≤ 1000000) : S.ev (n + 4) id_interpreterref15_Inside4 [.str s] none = some (.tup [iLV4 s, .int .i64 (iC4 s), .int .i64 (iK4 s)], none) := by
  rw [Sys.step hS.h_interpreterref15_Inside4, F_interpreterref15_Inside4_eq]
  unfold F_interpreterref15_Inside4 F_interpreterref15_Inside4_k1
  (try simp only [guard_merge, or_merge, and_merge, or_pick, and_pick, guard_or, guard_and]); simp only [to_ob]
  unfold iLV4 iC4 iK4
  by_cases c1 : s.length < 20
  · have c1' : (s.length : Int) < 20 := by omega
    simp only [go_sem, ↓reduceIte, reduceCtorEq, upd_ne, back_new (no_at), Nat.reduceAdd, Nat.reduceEqDiff, Nat.reduceMul, Nat.reduceSub, Nat.reduceLeDiff, Nat.reduceLT, Int.reduceToNat, Int.reduceLE, Int.reduceLT, Int.reduceEq, UInt8.reduceOfNat, c1, c1']
  · have c1' : ¬ (s.length : Int) < 20 := by omega
    have g0 := get_def (s := s) (i := 0) (by omega)
    have hb0 := bAt_le s 0
    have e1 : IntKind.i64.wrap ((s.getD 0 0).toNat : Int) = ((bAt s 0 : Nat) : Int) := wrap_id (by omega) (by unfold bAt at hb0; omega)
    have e2 : IntKind.i64.wrap (4 * IntKind.i64.wrap (((bAt s 0 : Nat) : Int) - 64)) = 4 * (((bAt s 0 : Nat) : Int) - 64) := by
      rw [wrap_id (n := ((bAt s 0 : Nat) : Int) - 64) (by omega) (by omega), wrap_id (by omega) (by omega)]
    by_cases c2 : bAt s 0 / 16 ≠ 4 ∨ n4 s < 20
    · rw [if_neg c1, if_pos c2]
      by_cases c2a : 4 * (((bAt s 0 : Nat) : Int) - 64) < 20
      · simp only [go_sem, ↓reduceIte, reduceCtorEq, upd_ne, back_new (no_at), Nat.reduceAdd, Nat.reduceEqDiff, Nat.reduceMul, Nat.reduceSub, Nat.reduceLeDiff, Nat.reduceLT, Int.reduceToNat, Int.reduceLE, Int.reduceLT, Int.reduceEq, UInt8.reduceOfNat, List.getElem?_map, Int.toNat_natCast, c1', c2a, g0, byteLV, e1, e2]
      · have c2b : 60 < 4 * (((bAt s 0 : Nat) : Int) - 64) := by unfold n4 at c2; omega
        simp only [go_sem, ↓reduceIte, reduceCtorEq, upd_ne, back_new (no_at), Nat.reduceAdd, Nat.reduceEqDiff, Nat.reduceMul, Nat.reduceSub, Nat.reduceLeDiff, Nat.reduceLT, Int.reduceToNat, Int.reduceLE, Int.reduceLT, Int.reduceEq, UInt8.reduceOfNat, List.getElem?_map, Int.toNat_natCast, c1', c2a, c2b, g0, byteLV, e1, e2]
    · have hn : 4 * (((bAt s 0 : Nat) : Int) - 64) = ((n4 s : Nat) : Int) := by unfold n4 at c2 ⊢; omega
      rw [hn] at e2
      have c2a : ¬ ((n4 s : Nat) : Int) < 20 := by omega
      have c2b : ¬ 60 < ((n4 s : Nat) : Int) := by unfold n4; omega
      by_cases c3 : s.length < n4 s
      · have c3' : (s.length : Int) < ((n4 s : Nat) : Int) := by omega
        simp only [go_sem, ↓reduceIte, reduceCtorEq, upd_ne, back_new (no_at), Nat.reduceAdd, Nat.reduceEqDiff, Nat.reduceMul, Nat.reduceSub, Nat.reduceLeDiff, Nat.reduceLT, Int.reduceToNat, Int.reduceLE, Int.reduceLT, Int.reduceEq, UInt8.reduceOfNat, List.getElem?_map, Int.toNat_natCast, c1, c1', c2, c2a, c2b, c3, c3', g0, byteLV, e1, e2]
      · have c3' : ¬ (s.length : Int) < ((n4 s : Nat) : Int) := by omega
        have c3'' : n4 s ≤ s.length := by omega
        have hr := ev_rOf hS (n + 1) (s.take (n4 s)) (by rw [List.length_take]; omega)
        have hr : S.ev (n + 3) id_interpreterref02_Of [.str (s.take (n4 s))] none = some (.int .i64 (sumS (s.take (n4 s))), none) := hr
        by_cases c4 : sumS (s.take (n4 s)) = 0
        · have t2 : S.ev (n + 3) id_interpreterref15_number [.str s, .int .i64 2, .int .i64 2] none = some (.int .i64 (wAt s 2 : Nat), none) := ev_number15 hS n s 2 (by omega) (by omega)
          have t6 : S.ev (n + 3) id_interpreterref15_number [.str s, .int .i64 6, .int .i64 2] none = some (.int .i64 (wAt s 6 : Nat), none) := ev_number15 hS n s 6 (by omega) (by omega)
          have t4 : S.ev (n + 3) id_interpreterref15_number [.str s, .int .i64 4, .int .i64 2] none = some (.int .i64 (wAt s 4 : Nat), none) := ev_number15 hS n s 4 (by omega) (by omega)
          have c4n : ¬ (sumS (s.take (n4 s)) ≠ 0) := fun h => h c4
          have hw6 := wAt_le s 6
          have hw2 := wAt_le s 2
          have f1 : IntKind.i64.wrap (Int.tmod ((wAt s 6 : Nat) : Int) 8192 * 8) = pat4 s := by
            rw [show Int.tmod ((wAt s 6 : Nat) : Int) 8192 = ((wAt s 6 % 8192 : Nat) : Int) from rfl, wrap_id (by omega) (by omega)]; unfold pat4; omega
          have f2 : IntKind.i64.wrap (Int.tdiv ((wAt s 6 : Nat) : Int) 16384) = ((wAt s 6 / 16384 : Nat) : Int) := by
            rw [show Int.tdiv ((wAt s 6 : Nat) : Int) 16384 = ((wAt s 6 / 16384 : Nat) : Int) from rfl, wrap_id (by omega) (by omega)]
          have f3 : IntKind.i64.wrap (Int.tdiv ((wAt s 6 : Nat) : Int) 8192) = ((wAt s 6 / 8192 : Nat) : Int) := by
            rw [show Int.tdiv ((wAt s 6 : Nat) : Int) 8192 = ((wAt s 6 / 8192 : Nat) : Int) from rfl, wrap_id (by omega) (by omega)]
          have f5 : decide (Int.tmod ((wAt s 6 / 8192 : Nat) : Int) 2 = 1) = pmo4 s := by
            rw [show Int.tmod ((wAt s 6 / 8192 : Nat) : Int) 2 = ((wAt s 6 / 8192 % 2 : Nat) : Int) from rfl]; unfold pmo4; exact decide_eq_decide.2 (by omega)
          have f6 : IntKind.i64.wrap (pat4 s + ((wAt s 2 : Nat) : Int)) = ((wAt s 6 % 8192 * 8 + wAt s 2 : Nat) : Int) := by unfold pat4; rw [wrap_id (by omega) (by omega)]; omega
          by_cases c5 : wAt s 2 < n4 s ∨ 32768 ≤ wAt s 6 ∨ 65535 < wAt s 6 % 8192 * 8 + wAt s 2
          · rw [if_neg c1, if_neg c2, if_neg c3, if_neg c4n, if_pos c5]
            by_cases d1 : ((wAt s 2 : Nat) : Int) < ((n4 s : Nat) : Int) <;> by_cases d2 : 32768 ≤ ((wAt s 6 : Nat) : Int) <;> by_cases d3 : 65535 < ((wAt s 6 % 8192 * 8 + wAt s 2 : Nat) : Int) <;> first | (exfalso; omega) |
              simp only [go_sem, ↓reduceIte, reduceCtorEq, upd_ne, back_new (no_at), Nat.reduceAdd, Nat.reduceEqDiff, Nat.reduceMul, Nat.reduceSub, Nat.reduceLeDiff, Nat.reduceLT, Int.reduceToNat, Int.reduceLE, Int.reduceLT, Int.reduceEq, UInt8.reduceOfNat, List.getElem?_map, Int.toNat_natCast, Nat.sub_zero, c1', c2a, c2b, c3', c3'', c4, hr, t2, t6, f1, f6, d1, d2, d3, g0, byteLV, e1, e2]
          · have d1 : ¬ ((wAt s 2 : Nat) : Int) < ((n4 s : Nat) : Int) := by omega
            have d2 : ¬ 32768 ≤ ((wAt s 6 : Nat) : Int) := by omega
            have d3 : ¬ 65535 < ((wAt s 6 % 8192 * 8 + wAt s 2 : Nat) : Int) := by omega
            have d3' : ¬ 65535 < wAt s 6 % 8192 * 8 + wAt s 2 := by omega
            have f4 : decide (((wAt s 6 / 16384 : Nat) : Int) = 1) = pdf4 s := by unfold pdf4; exact decide_eq_decide.2 (by omega)
            have b1 : IntKind.i64.wrap (((wAt s 2 : Nat) : Int) - ((n4 s : Nat) : Int)) = ((wAt s 2 - n4 s : Nat) : Int) := by rw [wrap_id (by omega) (by omega)]; omega
            have hsh := ev_little hS (n + 2) (pda4 s) ((wAt s 2 - n4 s : Nat) : Int)
            rw [if_neg c1, if_neg c2, if_neg c3, if_neg c4n, if_neg c5]
            have g1 := get_def (s := s) (i := 1) (by omega)
            have g8 := get_def (s := s) (i := 8) (by omega)
            have g9 := get_def (s := s) (i := 9) (by omega)
            have hb1 := bAt_le s 1
            have hb8 := bAt_le s 8
            have hb9 := bAt_le s 9
            have w1 : IntKind.i64.wrap ((s.getD 1 0).toNat : Int) = ((bAt s 1 : Nat) : Int) := wrap_id (by omega) (by unfold bAt at hb1; omega)
            have w8 : IntKind.i64.wrap ((s.getD 8 0).toNat : Int) = ((bAt s 8 : Nat) : Int) := wrap_id (by omega) (by unfold bAt at hb8; omega)
            have w9 : IntKind.i64.wrap ((s.getD 9 0).toNat : Int) = ((bAt s 9 : Nat) : Int) := wrap_id (by omega) (by unfold bAt at hb9; omega)
            have l20 : 20 ≤ n4 s := by omega
            have hlf : (pfr4 s).length = 4 := by unfold pfr4; simp; omega
            have hlt : (pto4 s).length = 4 := by unfold pto4; simp; omega
            have v3 : (s.drop 20).take (n4 s - 20) = pop4 s := rfl
            have v7 : (s.drop (n4 s)).take (s.length - n4 s) = s.drop (n4 s) := List.take_of_length_le (by simp)
            by_cases p1 : ((wAt s 2 - n4 s : Nat) : Int) < ((s.length - n4 s : Nat) : Int)
            · have v8 : (s.drop (n4 s)).take (wAt s 2 - n4 s) = pda4 s := rfl
              have m1 : wAt s 2 - n4 s ≤ s.length - n4 s := by omega
              by_cases c6 : (pda4 s).length < min 8 (wAt s 2 - n4 s)
              · rw [decide_eq_true (by omega)] at hsh
                rw [if_pos c6]
                simp only [go_sem, ↓reduceIte, reduceCtorEq, upd_ne, back_new (no_at), Nat.reduceAdd, Nat.reduceEqDiff, Nat.reduceMul, Nat.reduceSub, Nat.reduceLeDiff, Nat.reduceLT, Int.reduceToNat, Int.reduceLE, Int.reduceLT, Int.reduceEq, UInt8.reduceOfNat, List.getElem?_map, Int.toNat_natCast, Nat.sub_zero, c1', c2a, c2b, c3', c3'', c4, hr, t2, t6, t4, d1, d2, d3, d3', p1, g0, g1, g8, g9, byteLV, e1, e2, w1, w8, w9, f1, f2, f3, f4, f5, f6, b1, l20, v3, v7, v8, m1, List.length_drop, hsh]
              rw [decide_eq_false (by omega)] at hsh
              rw [if_neg c6]
              simp only [go_sem, ↓reduceIte, reduceCtorEq, upd_ne, back_new (no_at), Nat.reduceAdd, Nat.reduceEqDiff, Nat.reduceMul, Nat.reduceSub, Nat.reduceLeDiff, Nat.reduceLT, Int.reduceToNat, Int.reduceLE, Int.reduceLT, Int.reduceEq, UInt8.reduceOfNat, List.getElem?_map, Int.toNat_natCast, Nat.sub_zero, c1', c2a, c2b, c3', c3'', c4, hr, t2, t6, t4, d1, d2, d3, d3', p1, g0, g1, g8, g9, byteLV, e1, e2, w1, w8, w9, f1, f2, f3, f4, f5, f6, b1, l20, v3, v7, v8, m1, List.length_drop, hsh]
              refine while_rule (fun k q => ∃ i : Nat, i + k = 4 ∧ q = ([.int .i64 (i : Int)], upd (upd (upd noSlots 2 (.obj 1 z4LV)) 5 (.obj 1 z4LV)) 10 (.obj 1 (ip4LV (bAt s 1 : Nat) (wAt s 4 : Nat) (bAt s 8 : Nat) (bAt s 9 : Nat) (pat4 s) (pdf4 s) (pmo4 s) ((pfr4 s).take i ++ List.replicate (4 - i) 0) ((pto4 s).take i ++ List.replicate (4 - i) 0) (pop4 s) (pda4 s))))) 4 ⟨0, rfl, by simp⟩ ?_
              rintro k q ⟨i, hi, rfl⟩
              simp only [go_sem, ↓reduceIte, reduceCtorEq, upd_ne, back_new (no_at), Nat.reduceAdd, Nat.reduceEqDiff, Nat.reduceMul, Nat.reduceSub, Nat.reduceLeDiff, Nat.reduceLT, Int.reduceToNat, Int.reduceLE, Int.reduceLT, Int.reduceEq, UInt8.reduceOfNat]
              refine nxt_ite (fun h => ?_) (fun h => ?_)
              · have hi4 : i < 4 := by omega
                have ga := get_def (s := s) (i := 12 + i) (by omega)
                have gb := get_def (s := s) (i := 16 + i) (by omega)
                have i1 : IntKind.i64.wrap (12 + (i : Int)) = ((12 + i : Nat) : Int) := by rw [wrap_id (by omega) (by omega)]; omega
                have i2 : IntKind.i64.wrap (16 + (i : Int)) = ((16 + i : Nat) : Int) := by rw [wrap_id (by omega) (by omega)]; omega
                have i3 : IntKind.i64.wrap ((i : Int) + 1) = ((i + 1 : Nat) : Int) := by rw [wrap_id (by omega) (by omega)]; omega
                have hla : ((pfr4 s).take i ++ List.replicate (4 - i) 0).length = 4 := by rw [List.length_append, List.length_take, List.length_replicate]; omega
                have hlb : ((pto4 s).take i ++ List.replicate (4 - i) 0).length = 4 := by rw [List.length_append, List.length_take, List.length_replicate]; omega
                obtain ⟨ca, hca⟩ : ∃ c0, ((pfr4 s).take i ++ List.replicate (4 - i) 0)[i]? = some c0 := ⟨_, List.getElem?_eq_getElem (by omega)⟩
                obtain ⟨cb, hcb⟩ : ∃ c0, ((pto4 s).take i ++ List.replicate (4 - i) 0)[i]? = some c0 := ⟨_, List.getElem?_eq_getElem (by omega)⟩
                have sa := set_mid hlf hi4 (sub_get (s := s) (a := 12) (m := 4) hi4 (by omega))
                have sb := set_mid hlt hi4 (sub_get (s := s) (a := 16) (m := 4) hi4 (by omega))
                have hla2 : ((pfr4 s).take (i + 1) ++ List.replicate (4 - (i + 1)) 0).length = 4 := by rw [List.length_append, List.length_take, List.length_replicate]; omega
                simp only [go_sem, ↓reduceIte, reduceCtorEq, upd_ne, back_new (no_at), Nat.reduceAdd, Nat.reduceEqDiff, Nat.reduceMul, Nat.reduceSub, Nat.reduceLeDiff, Nat.reduceLT, Int.reduceToNat, Int.reduceLE, Int.reduceLT, Int.reduceEq, UInt8.reduceOfNat, List.getElem?_map, Int.toNat_natCast, ga, gb, i1, i2, i3, hla, hlb, hla2, hca, hcb, sa, sb, hi4, byteLV, u8_lt, UInt8.ofNat_toNat, Nat.mul_one, eq_self]
                exact ⟨k - 1, by omega, i + 1, by omega, rfl⟩
              · obtain rfl : i = 4 := by omega
                have ta : (pfr4 s).take 4 ++ List.replicate (4 - 4) 0 = pfr4 s := by rw [List.take_of_length_le (by omega)]; simp
                have tb : (pto4 s).take 4 ++ List.replicate (4 - 4) 0 = pto4 s := by rw [List.take_of_length_le (by omega)]; simp
                rw [ta, tb]
                simp only [go_sem, ↓reduceIte, reduceCtorEq, upd_ne, back_new (no_at), Nat.reduceAdd, Nat.reduceEqDiff, Nat.reduceMul, Nat.reduceSub, Nat.reduceLeDiff, Nat.reduceLT, Int.reduceToNat, Int.reduceLE, Int.reduceLT, Int.reduceEq, UInt8.reduceOfNat, Nxt, exIf, hlf, hlt, b1]
            · have v8 : s.drop (n4 s) = pda4 s := (List.take_of_length_le (by simp; omega)).symm
              have v9 : (pda4 s).length = s.length - n4 s := by rw [← v8]; simp
              have v10 : (pda4 s).take (s.length - n4 s) = pda4 s := List.take_of_length_le (by omega)
              by_cases c6 : (pda4 s).length < min 8 (wAt s 2 - n4 s)
              · rw [decide_eq_true (by omega)] at hsh
                rw [if_pos c6]
                simp only [go_sem, ↓reduceIte, reduceCtorEq, upd_ne, back_new (no_at), Nat.reduceAdd, Nat.reduceEqDiff, Nat.reduceMul, Nat.reduceSub, Nat.reduceLeDiff, Nat.reduceLT, Int.reduceToNat, Int.reduceLE, Int.reduceLT, Int.reduceEq, UInt8.reduceOfNat, List.getElem?_map, Int.toNat_natCast, Nat.sub_zero, c1', c2a, c2b, c3', c3'', c4, hr, t2, t6, t4, d1, d2, d3, d3', p1, g0, g1, g8, g9, byteLV, e1, e2, w1, w8, w9, f1, f2, f3, f4, f5, f6, b1, l20, v3, v8, v9, v10, hsh]
              rw [decide_eq_false (by omega)] at hsh
              rw [if_neg c6]
              simp only [go_sem, ↓reduceIte, reduceCtorEq, upd_ne, back_new (no_at), Nat.reduceAdd, Nat.reduceEqDiff, Nat.reduceMul, Nat.reduceSub, Nat.reduceLeDiff, Nat.reduceLT, Int.reduceToNat, Int.reduceLE, Int.reduceLT, Int.reduceEq, UInt8.reduceOfNat, List.getElem?_map, Int.toNat_natCast, Nat.sub_zero, c1', c2a, c2b, c3', c3'', c4, hr, t2, t6, t4, d1, d2, d3, d3', p1, g0, g1, g8, g9, byteLV, e1, e2, w1, w8, w9, f1, f2, f3, f4, f5, f6, b1, l20, v3, v8, v9, v10, hsh]
              refine while_rule (fun k q => ∃ i : Nat, i + k = 4 ∧ q = ([.int .i64 (i : Int)], upd (upd (upd noSlots 2 (.obj 1 z4LV)) 5 (.obj 1 z4LV)) 10 (.obj 1 (ip4LV (bAt s 1 : Nat) (wAt s 4 : Nat) (bAt s 8 : Nat) (bAt s 9 : Nat) (pat4 s) (pdf4 s) (pmo4 s) ((pfr4 s).take i ++ List.replicate (4 - i) 0) ((pto4 s).take i ++ List.replicate (4 - i) 0) (pop4 s) (pda4 s))))) 4 ⟨0, rfl, by simp⟩ ?_
              rintro k q ⟨i, hi, rfl⟩
              simp only [go_sem, ↓reduceIte, reduceCtorEq, upd_ne, back_new (no_at), Nat.reduceAdd, Nat.reduceEqDiff, Nat.reduceMul, Nat.reduceSub, Nat.reduceLeDiff, Nat.reduceLT, Int.reduceToNat, Int.reduceLE, Int.reduceLT, Int.reduceEq, UInt8.reduceOfNat]
              refine nxt_ite (fun h => ?_) (fun h => ?_)
              · have hi4 : i < 4 := by omega
                have ga := get_def (s := s) (i := 12 + i) (by omega)
                have gb := get_def (s := s) (i := 16 + i) (by omega)
                have i1 : IntKind.i64.wrap (12 + (i : Int)) = ((12 + i : Nat) : Int) := by rw [wrap_id (by omega) (by omega)]; omega
                have i2 : IntKind.i64.wrap (16 + (i : Int)) = ((16 + i : Nat) : Int) := by rw [wrap_id (by omega) (by omega)]; omega
                have i3 : IntKind.i64.wrap ((i : Int) + 1) = ((i + 1 : Nat) : Int) := by rw [wrap_id (by omega) (by omega)]; omega
                have hla : ((pfr4 s).take i ++ List.replicate (4 - i) 0).length = 4 := by rw [List.length_append, List.length_take, List.length_replicate]; omega
                have hlb : ((pto4 s).take i ++ List.replicate (4 - i) 0).length = 4 := by rw [List.length_append, List.length_take, List.length_replicate]; omega
                obtain ⟨ca, hca⟩ : ∃ c0, ((pfr4 s).take i ++ List.replicate (4 - i) 0)[i]? = some c0 := ⟨_, List.getElem?_eq_getElem (by omega)⟩
                obtain ⟨cb, hcb⟩ : ∃ c0, ((pto4 s).take i ++ List.replicate (4 - i) 0)[i]? = some c0 := ⟨_, List.getElem?_eq_getElem (by omega)⟩
                have sa := set_mid hlf hi4 (sub_get (s := s) (a := 12) (m := 4) hi4 (by omega))
                have sb := set_mid hlt hi4 (sub_get (s := s) (a := 16) (m := 4) hi4 (by omega))
                have hla2 : ((pfr4 s).take (i + 1) ++ List.replicate (4 - (i + 1)) 0).length = 4 := by rw [List.length_append, List.length_take, List.length_replicate]; omega
                simp only [go_sem, ↓reduceIte, reduceCtorEq, upd_ne, back_new (no_at), Nat.reduceAdd, Nat.reduceEqDiff, Nat.reduceMul, Nat.reduceSub, Nat.reduceLeDiff, Nat.reduceLT, Int.reduceToNat, Int.reduceLE, Int.reduceLT, Int.reduceEq, UInt8.reduceOfNat, List.getElem?_map, Int.toNat_natCast, ga, gb, i1, i2, i3, hla, hlb, hla2, hca, hcb, sa, sb, hi4, byteLV, u8_lt, UInt8.ofNat_toNat, Nat.mul_one, eq_self]
                exact ⟨k - 1, by omega, i + 1, by omega, rfl⟩
              · obtain rfl : i = 4 := by omega
                have ta : (pfr4 s).take 4 ++ List.replicate (4 - 4) 0 = pfr4 s := by rw [List.take_of_length_le (by omega)]; simp
                have tb : (pto4 s).take 4 ++ List.replicate (4 - 4) 0 = pto4 s := by rw [List.take_of_length_le (by omega)]; simp
                rw [ta, tb]
                simp only [go_sem, ↓reduceIte, reduceCtorEq, upd_ne, back_new (no_at), Nat.reduceAdd, Nat.reduceEqDiff, Nat.reduceMul, Nat.reduceSub, Nat.reduceLeDiff, Nat.reduceLT, Int.reduceToNat, Int.reduceLE, Int.reduceLT, Int.reduceEq, UInt8.reduceOfNat, Nxt, exIf, hlf, hlt, b1]
        · simp only [go_sem, ↓reduceIte, reduceCtorEq, upd_ne, back_new (no_at), Nat.reduceAdd, Nat.reduceEqDiff, Nat.reduceMul, Nat.reduceSub, Nat.reduceLeDiff, Nat.reduceLT, Int.reduceToNat, Int.reduceLE, Int.reduceLT, Int.reduceEq, UInt8.reduceOfNat, List.getElem?_map, Int.toNat_natCast, Nat.sub_zero, c1, c1', c2, c2a, c2b, c3, c3', c3'', c4, hr, g0, byteLV, e1, e2]
end
end Go.Ev

namespace Go.Ev
set_option linter.unusedSimpArgs false
set_option linter.unusedVariables false
set_option maxRecDepth 10000
set_option maxHeartbeats 8000000
def k64 (x : Nat) : Nat := if x = 128 then 8 else 0
def isE6 (d : List UInt8) : Bool := decide (8 ≤ d.length) && (decide (bAt d 0 = 128 ∨ bAt d 0 = 129) && decide (bAt d 1 = 0))
def tn4 (pt at' : Int) (d fr to a b : List UInt8) (claim p q : Nat) : List UInt8 :=
  if 0 < at' then d else if pt = 6 ∨ pt = 17 then poF (decide (pt = 17)) d (fr ++ to) (a ++ b) p q else
  if pt = 58 ∧ isE6 d = true then ecF d (ps6 fr to 58 claim) [] (k64 (bAt d 0)) p else d
theorem tn4_len {pt at' : Int} {d fr to a b : List UInt8} {claim p q : Nat} : (tn4 pt at' d fr to a b claim p q).length = d.length := by
  unfold tn4
  split
  · rfl
  · split
    · exact poF_len
    · split
      · rename_i h
        have := h.2
        unfold isE6 at this
        simp only [Bool.and_eq_true, decide_eq_true_eq] at this
        exact ecF_len (by omega)
      · rfl
section
variable {S : Sys} (hS : Has S) (n : Nat)
include hS
theorem ev_turn4 {cl fl ho : Int} {fr to : List UInt8} {ex : List (Int × List UInt8)} {fg : Bool} {id at' : Int} {mo : Bool} {pt : Int} {da a b : List UInt8} {claim p q : Nat} (hfr : fr.length = 16) (hto : to.length = 16) (ha : a.length = 4) (hb : b.length = 4) (hd : da.length ≤ 900000) (hc : claim < 4294967296) (hp : p ≤ 65535) (hq : q ≤ 65535) :
    S.ev (n + 5) id_fault_turn4 [ip6LV cl fl ho fr to (extsLV ex) fg id at' mo pt da, .int .i64 (claim : Int), .agg [.bytes a, .int .i64 (p : Int)], .agg [.bytes b, .int .i64 (q : Int)]] none = some (.str (tn4 pt at' da fr to a b claim p q), none) := by
  unfold tn4
  rw [Sys.step hS.h_fault_turn4, F_fault_turn4_eq]
  unfold F_fault_turn4
  (try simp only [guard_merge, or_merge, and_merge, or_pick, and_pick, guard_or, guard_and]); simp only [to_ob]
  by_cases c0 : 0 < at'
  · rw [if_pos c0]
    simp only [go_sem, ↓reduceIte, reduceCtorEq, upd_ne, back_new (no_at), Nat.reduceAdd, Nat.reduceEqDiff, Nat.reduceMul, Nat.reduceSub, Nat.reduceLeDiff, Nat.reduceLT, Int.reduceToNat, Int.reduceLE, Int.reduceLT, Int.reduceEq, UInt8.reduceOfNat, List.getElem?_map, Int.toNat_natCast, hfr, hto, ha, hb, c0]
  rw [if_neg c0]
  by_cases c1 : pt = 6 ∨ pt = 17
  · rw [if_pos c1]
    have hP := ev_ported hS n pt da (fr ++ to) (a ++ b) p q hd (by simp [hfr, hto]) (by simp [hfr, hto]) (by simp [ha, hb]) hp hq
    have x1 : 4 + 4 ≤ maxStr := by decide
    have x2 : 16 + 16 ≤ maxStr := by decide
    have t1 : fr.take 16 = fr := List.take_of_length_le (by omega)
    have t2 : to.take 16 = to := List.take_of_length_le (by omega)
    have t3 : a.take 4 = a := List.take_of_length_le (by omega)
    have t4 : b.take 4 = b := List.take_of_length_le (by omega)
    rcases c1 with rfl | rfl
    · simp only [go_sem, ↓reduceIte, reduceCtorEq, upd_ne, back_new (no_at), Nat.reduceAdd, Nat.reduceEqDiff, Nat.reduceMul, Nat.reduceSub, Nat.reduceLeDiff, Nat.reduceLT, Int.reduceToNat, Int.reduceLE, Int.reduceLT, Int.reduceEq, UInt8.reduceOfNat, List.getElem?_map, Int.toNat_natCast, hfr, hto, ha, hb, c0, hP, x1, x2, t1, t2, t3, t4, toBytes_byteLV, List.length_append]
    · simp only [go_sem, ↓reduceIte, reduceCtorEq, upd_ne, back_new (no_at), Nat.reduceAdd, Nat.reduceEqDiff, Nat.reduceMul, Nat.reduceSub, Nat.reduceLeDiff, Nat.reduceLT, Int.reduceToNat, Int.reduceLE, Int.reduceLT, Int.reduceEq, UInt8.reduceOfNat, List.getElem?_map, Int.toNat_natCast, hfr, hto, ha, hb, c0, hP, x1, x2, t1, t2, t3, t4, toBytes_byteLV, List.length_append]
  rw [if_neg c1]
  have c6 : ¬ pt = 6 := fun h => c1 (.inl h)
  have c17 : ¬ pt = 17 := fun h => c1 (.inr h)
  by_cases c2 : pt = 58
  case neg =>
    rw [if_neg (fun h => c2 h.1)]
    simp only [go_sem, ↓reduceIte, reduceCtorEq, upd_ne, back_new (no_at), Nat.reduceAdd, Nat.reduceEqDiff, Nat.reduceMul, Nat.reduceSub, Nat.reduceLeDiff, Nat.reduceLT, Int.reduceToNat, Int.reduceLE, Int.reduceLT, Int.reduceEq, UInt8.reduceOfNat, List.getElem?_map, Int.toNat_natCast, hfr, hto, ha, hb, c0, c6, c17, c2]
  unfold isE6
  by_cases c3 : (da.length : Int) < 8
  · have c3' : ¬ (8 : Int) ≤ (da.length : Int) := by omega
    rw [if_neg (by rw [decide_eq_false (by omega)]; simp)]
    simp only [go_sem, ↓reduceIte, reduceCtorEq, upd_ne, back_new (no_at), Nat.reduceAdd, Nat.reduceEqDiff, Nat.reduceMul, Nat.reduceSub, Nat.reduceLeDiff, Nat.reduceLT, Int.reduceToNat, Int.reduceLE, Int.reduceLT, Int.reduceEq, UInt8.reduceOfNat, List.getElem?_map, Int.toNat_natCast, hfr, hto, ha, hb, c0, c2, c3, c3']
  have c3' : (8 : Int) ≤ (da.length : Int) := by omega
  rw [decide_eq_true (p := 8 ≤ da.length) (by omega), Bool.true_and]
  have g0 := get_def (s := da) (i := 0) (by omega)
  have g1 := get_def (s := da) (i := 1) (by omega)
  have b0 : (da.getD 0 0).toNat = bAt da 0 := rfl
  have b1 : (da.getD 1 0).toNat = bAt da 1 := rfl
  have hps := ev_Pseudo6 hS (n + 1) fr to 58 claim hfr hto (by omega) hc
  have hps : S.ev (n + 4) id_sum_Pseudo6 [.bytes fr, .bytes to, .int .i64 58, .int .i64 (claim : Int)] none = _ := hps
  have e1 : ∀ k : Nat, k ≤ 255 → S.ev (n + 4) id_fault_echoed [.str da, .str (ps6 fr to 58 claim), .str [], .int .i64 (k : Int), .int .i64 (p : Int)] none = some (.str (ecF da (ps6 fr to 58 claim) [] k p), none) := fun k hk =>
    ev_echoed hS n da (ps6 fr to 58 claim) [] k p (by omega) hd (by rw [ps6_len]; omega) (by rw [ps6_len]; omega) (by simp) hk hp
  have e8 : S.ev (n + 4) id_fault_echoed [.str da, .str (ps6 fr to 58 claim), .str [], .int .i64 8, .int .i64 (p : Int)] none = _ := e1 8 (by omega)
  have e0 : S.ev (n + 4) id_fault_echoed [.str da, .str (ps6 fr to 58 claim), .str [], .int .i64 0, .int .i64 (p : Int)] none = _ := e1 0 (by omega)
  by_cases d8 : bAt da 0 = 128
  · by_cases d1 : bAt da 1 = 0
    · rw [if_pos ⟨c2, by simp [d8, d1]⟩, show k64 (bAt da 0) = 8 by unfold k64; rw [if_pos d8]]
      simp only [go_sem, ↓reduceIte, reduceCtorEq, upd_ne, back_new (no_at), Nat.reduceAdd, Nat.reduceEqDiff, Nat.reduceMul, Nat.reduceSub, Nat.reduceLeDiff, Nat.reduceLT, Int.reduceToNat, Int.reduceLE, Int.reduceLT, Int.reduceEq, UInt8.reduceOfNat, List.getElem?_map, Int.toNat_natCast, hfr, hto, ha, hb, c0, c2, c3, c3', g0, g1, byteLV, b0, b1, d8, d1, hps, e8, Int.cast_ofNat_Int, Int.natCast_zero]
    · have d1' : ¬ ((bAt da 1 : Nat) : Int) = 0 := by omega
      rw [if_neg (by simp [d1])]
      simp only [go_sem, ↓reduceIte, reduceCtorEq, upd_ne, back_new (no_at), Nat.reduceAdd, Nat.reduceEqDiff, Nat.reduceMul, Nat.reduceSub, Nat.reduceLeDiff, Nat.reduceLT, Int.reduceToNat, Int.reduceLE, Int.reduceLT, Int.reduceEq, UInt8.reduceOfNat, List.getElem?_map, Int.toNat_natCast, hfr, hto, ha, hb, c0, c2, c3, c3', g0, g1, byteLV, b0, b1, d8, d1', hps, e8, Int.cast_ofNat_Int, Int.natCast_zero]
  · have d8' : ¬ ((bAt da 0 : Nat) : Int) = 128 := by omega
    by_cases d0 : bAt da 0 = 129
    · by_cases d1 : bAt da 1 = 0
      · rw [if_pos ⟨c2, by simp [d0, d1]⟩, show k64 (bAt da 0) = 0 by unfold k64; rw [if_neg d8]]
        simp only [go_sem, ↓reduceIte, reduceCtorEq, upd_ne, back_new (no_at), Nat.reduceAdd, Nat.reduceEqDiff, Nat.reduceMul, Nat.reduceSub, Nat.reduceLeDiff, Nat.reduceLT, Int.reduceToNat, Int.reduceLE, Int.reduceLT, Int.reduceEq, UInt8.reduceOfNat, List.getElem?_map, Int.toNat_natCast, hfr, hto, ha, hb, c0, c2, c3, c3', g0, g1, byteLV, b0, b1, d0, d1, hps, e0, Int.cast_ofNat_Int, Int.natCast_zero]
      · have d1' : ¬ ((bAt da 1 : Nat) : Int) = 0 := by omega
        rw [if_neg (by simp [d1])]
        simp only [go_sem, ↓reduceIte, reduceCtorEq, upd_ne, back_new (no_at), Nat.reduceAdd, Nat.reduceEqDiff, Nat.reduceMul, Nat.reduceSub, Nat.reduceLeDiff, Nat.reduceLT, Int.reduceToNat, Int.reduceLE, Int.reduceLT, Int.reduceEq, UInt8.reduceOfNat, List.getElem?_map, Int.toNat_natCast, hfr, hto, ha, hb, c0, c2, c3, c3', g0, g1, byteLV, b0, b1, d0, d1', hps, e0, Int.cast_ofNat_Int, Int.natCast_zero]
    · have d0' : ¬ ((bAt da 0 : Nat) : Int) = 129 := by omega
      rw [if_neg (by simp [d8, d0])]
      simp only [go_sem, ↓reduceIte, reduceCtorEq, upd_ne, back_new (no_at), Nat.reduceAdd, Nat.reduceEqDiff, Nat.reduceMul, Nat.reduceSub, Nat.reduceLeDiff, Nat.reduceLT, Int.reduceToNat, Int.reduceLE, Int.reduceLT, Int.reduceEq, UInt8.reduceOfNat, List.getElem?_map, Int.toNat_natCast, hfr, hto, ha, hb, c0, c2, c3, c3', g0, g1, byteLV, b0, b1, d8', d0', hps, e0, Int.cast_ofNat_Int, Int.natCast_zero]
end
end Go.Ev
