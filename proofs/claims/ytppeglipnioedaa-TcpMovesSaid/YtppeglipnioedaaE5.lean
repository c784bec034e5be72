/- Part 5 of a proof: what the functions yield. It stands by itself; no condition. -/
import Derived.Test.YtppeglipnioedaaE2
import Derived.Test.YtppeglipnioedaaE4
/- Layers 1 and 2: sums. -/
namespace Go.Ev
set_option linter.unusedSimpArgs false
set_option linter.unusedVariables false
set_option maxRecDepth 4000
set_option maxHeartbeats 1000000

/-- What bytes weigh, from an even or odd place on. -/
def sumAt : Nat → List UInt8 → Nat
  | _, [] => 0
  | p, c :: s => (if p % 2 = 0 then c.toNat * 256 else c.toNat) + sumAt (p + 1) s

theorem sumAt_append : ∀ (a b : List UInt8) (p : Nat), sumAt p (a ++ b) = sumAt p a + sumAt (p + a.length) b
  | [], b, p => by simp [sumAt]
  | c :: a, b, p => by
    simp only [List.cons_append, sumAt, sumAt_append a b (p + 1), List.length_cons]
    rw [show p + 1 + a.length = p + (a.length + 1) by omega]
    omega
theorem sumAt_le : ∀ (s : List UInt8) (p : Nat), sumAt p s ≤ 65280 * s.length
  | [], p => by simp [sumAt]
  | c :: s, p => by
    have := sumAt_le s (p + 1)
    have hc := c.toNat_lt
    simp only [sumAt, List.length_cons]
    split <;> omega
theorem sumAt_two : ∀ (s : List UInt8) (p : Nat), sumAt (p + 2) s = sumAt p s
  | [], p => rfl
  | c :: s, p => by
    simp only [sumAt]
    rw [show p + 2 + 1 = p + 1 + 2 by omega, sumAt_two s (p + 1), show (p + 2) % 2 = p % 2 by omega]

/-- Brought below 65536. -/
def ones (n : Nat) : Nat := if n = 0 then 0 else (n - 1) % 65535 + 1
theorem ones_le (n : Nat) : ones n ≤ 65535 := by unfold ones; split <;> omega
theorem ones_small {n : Nat} (h : n ≤ 65535) : ones n = n := by unfold ones; split <;> omega
theorem ones_step {n : Nat} (h : 65535 < n) : ones (n / 65536 + n % 65536) = ones n := by
  unfold ones
  rw [if_neg (by omega), if_neg (by omega)]
  omega
theorem ones_add (a b : Nat) : ones (ones a + b) = ones (a + b) := by
  unfold ones
  by_cases h : a = 0
  · subst h; simp
  · rw [if_neg h, if_neg (by omega), if_neg (by omega)]
    omega
theorem ones_zero {n : Nat} : ones n = 0 ↔ n = 0 := by unfold ones; split <;> omega

section
variable {S : Sys} (hS : Has S) (n : Nat)
include hS

theorem ev_fold (m : Nat) (hm : m ≤ 9223372036854775807) : S.ev (n + 1) id_sum_fold [.int .i64 (m : Int)] none = some (.int .i64 (ones m : Nat), none) := by
  rw [Sys.step hS.h_sum_fold, F_sum_fold_eq]
  unfold F_sum_fold
  (try simp only [guard_merge, or_merge, and_merge, or_pick, and_pick, guard_or, guard_and]); simp only [to_ob]
  refine while_rule (fun k q => ∃ x : Nat, q = ([.int .i64 (x : Int)], noSlots) ∧ k = x ∧ ones x = ones m ∧ x ≤ 9223372036854775807) m ⟨m, rfl, rfl, rfl, hm⟩ ?_
  rintro k q ⟨x, rfl, rfl, hx, hb⟩
  simp only [go_sem, ↓reduceIte, reduceCtorEq, upd_ne, back_new (no_at), Nat.reduceAdd, Nat.reduceEqDiff, Nat.reduceMul, Nat.reduceSub, Nat.reduceLeDiff, Nat.reduceLT, Int.reduceToNat, Int.reduceLE, Int.reduceLT, Int.reduceEq, UInt8.reduceOfNat]
  refine nxt_ite (fun h => ?_) (fun h => ?_)
  · have e1 : bitsOf .and .i64 (k : Int) 65535 = ((k % 65536 : Nat) : Int) := by
      rw [show (65535 : Int) = ((2 ^ 16 - 1 : Nat) : Int) from rfl, bits_mask 16 (by omega) (by simp [IntKind.max, IntKind.signed, IntKind.bits]; omega) (by decide)]
      rfl
    have e2 : Int.fdiv (k : Int) (2 ^ min 16 64) = ((k / 65536 : Nat) : Int) := by
      rw [show min 16 64 = 16 from rfl, Int.fdiv_eq_ediv_of_nonneg _ (by decide)]
      rfl
    have e3 : IntKind.i64.wrap (((k / 65536 : Nat) : Int) + ((k % 65536 : Nat) : Int)) = ((k / 65536 + k % 65536 : Nat) : Int) := by
      rw [wrap_id (by omega) (by omega)]; omega
    have hk : 65535 < k := by omega
    simp only [go_sem, ↓reduceIte, reduceCtorEq, upd_ne, back_new (no_at), Nat.reduceAdd, Nat.reduceEqDiff, Nat.reduceMul, Nat.reduceSub, Nat.reduceLeDiff, Nat.reduceLT, Int.reduceToNat, Int.reduceLE, Int.reduceLT, Int.reduceEq, UInt8.reduceOfNat, e1, e2, e3]
    exact ⟨_, by omega, _, rfl, rfl, by rw [ones_step hk, hx], by omega⟩
  · have hk : k ≤ 65535 := by omega
    simp only [go_sem, ↓reduceIte, reduceCtorEq, upd_ne, back_new (no_at), Nat.reduceAdd, Nat.reduceEqDiff, Nat.reduceMul, Nat.reduceSub, Nat.reduceLeDiff, Nat.reduceLT, Int.reduceToNat, Int.reduceLE, Int.reduceLT, Int.reduceEq, UInt8.reduceOfNat, Nxt, exIf]
    rw [← hx, ones_small hk]

theorem ev_add (m p : Nat) (s : List UInt8) (hb : m + 65280 * s.length ≤ 9223372036854775807) (hp : p + s.length ≤ 9223372036854775806) :
    S.ev (n + 1) id_sum_add [.int .i64 (m : Int), .int .i64 (p : Int), .str s, .int .u8 0] none = some (.int .i64 (m + sumAt p s : Nat), none) := by
  rw [Sys.step hS.h_sum_add, F_sum_add_eq]
  unfold F_sum_add
  (try simp only [guard_merge, or_merge, and_merge, or_pick, and_pick, guard_or, guard_and]); simp only [to_ob]
  simp only [go_sem, ↓reduceIte, reduceCtorEq, upd_ne, back_new (no_at), Nat.reduceAdd, Nat.reduceEqDiff, Nat.reduceMul, Nat.reduceSub, Nat.reduceLeDiff, Nat.reduceLT, Int.reduceToNat, Int.reduceLE, Int.reduceLT, Int.reduceEq, UInt8.reduceOfNat]
  refine while_rule (fun k q => ∃ x i : Nat, q = ([.int .i64 (x : Int), .int .i64 (i : Int)], noSlots) ∧ i + k = s.length ∧ x + sumAt (p + i) (s.drop i) = m + sumAt p s) s.length ⟨m, 0, rfl, by simp, by simp⟩ ?_
  rintro k q ⟨x, i, rfl, hi, hx⟩
  have hle := sumAt_le s p
  simp only [go_sem, ↓reduceIte, reduceCtorEq, upd_ne, back_new (no_at), Nat.reduceAdd, Nat.reduceEqDiff, Nat.reduceMul, Nat.reduceSub, Nat.reduceLeDiff, Nat.reduceLT, Int.reduceToNat, Int.reduceLE, Int.reduceLT, Int.reduceEq, UInt8.reduceOfNat]
  refine nxt_ite (fun h => ?_) (fun h => ?_)
  · have hlt : i < s.length := by omega
    obtain ⟨c, hc⟩ : ∃ c, s[i]? = some c := ⟨s[i], by simp [hlt]⟩
    have hd : s.drop i = c :: s.drop (i + 1) := by
      rw [List.drop_eq_getElem_cons hlt]; congr 1; simpa [hlt] using hc
    have hcl := c.toNat_lt
    rw [hd] at hx
    simp only [sumAt] at hx
    have e0 : bitsOf .xor .u8 (c.toNat : Int) 0 = (c.toNat : Int) := by
      rw [show (0 : Int) = ((0 : Nat) : Int) from rfl, bits_xor_nat (by simp [IntKind.max, IntKind.signed, IntKind.bits]; omega) (by simp [IntKind.max, IntKind.signed, IntKind.bits])]
      simp
    have e1 : IntKind.i64.wrap (c.toNat : Int) = (c.toNat : Int) := wrap_id (by omega) (by omega)
    have e2 : IntKind.i64.wrap ((p : Int) + (i : Int)) = ((p + i : Nat) : Int) := by rw [wrap_id (by omega) (by omega)]; omega
    have e3 : Int.tmod ((p + i : Nat) : Int) 2 = (((p + i) % 2 : Nat) : Int) := by
      rw [Int.tmod_eq_emod_of_nonneg (by omega)]; omega
    have e4 : IntKind.i64.wrap ((c.toNat : Int) * 2 ^ min 8 64) = ((c.toNat * 256 : Nat) : Int) := by
      rw [show min 8 64 = 8 from rfl, wrap_id (by omega) (by omega)]; omega
    have e6 : IntKind.i64.wrap ((i : Int) + 1) = ((i + 1 : Nat) : Int) := by rw [wrap_id (by omega) (by omega)]; omega
    simp only [go_sem, ↓reduceIte, reduceCtorEq, upd_ne, back_new (no_at), Nat.reduceAdd, Nat.reduceEqDiff, Nat.reduceMul, Nat.reduceSub, Nat.reduceLeDiff, Nat.reduceLT, Int.reduceToNat, Int.reduceLE, Int.reduceLT, Int.reduceEq, UInt8.reduceOfNat, List.getElem?_map, Int.toNat_natCast, hc, e0, e1, e2, e3, e4, e6]
    by_cases hpar : (p + i) % 2 = 0
    · rw [if_pos hpar] at hx
      have e5 : IntKind.i64.wrap ((x : Int) + ((c.toNat * 256 : Nat) : Int)) = ((x + c.toNat * 256 : Nat) : Int) := by
        rw [wrap_id (by omega) (by omega)]; omega
      have hq : (((p + i) % 2 : Nat) : Int) = 0 := by omega
      simp only [go_sem, ↓reduceIte, reduceCtorEq, upd_ne, back_new (no_at), Nat.reduceAdd, Nat.reduceEqDiff, Nat.reduceMul, Nat.reduceSub, Nat.reduceLeDiff, Nat.reduceLT, Int.reduceToNat, Int.reduceLE, Int.reduceLT, Int.reduceEq, UInt8.reduceOfNat, hq, e5]
      exact ⟨k - 1, by omega, _, i + 1, rfl, by omega, by rw [show p + (i + 1) = p + i + 1 by omega]; omega⟩
    · rw [if_neg hpar] at hx
      have e5 : IntKind.i64.wrap ((x : Int) + (c.toNat : Int)) = ((x + c.toNat : Nat) : Int) := by
        rw [wrap_id (by omega) (by omega)]; omega
      have hq : ¬ (((p + i) % 2 : Nat) : Int) = 0 := by omega
      simp only [go_sem, ↓reduceIte, reduceCtorEq, upd_ne, back_new (no_at), Nat.reduceAdd, Nat.reduceEqDiff, Nat.reduceMul, Nat.reduceSub, Nat.reduceLeDiff, Nat.reduceLT, Int.reduceToNat, Int.reduceLE, Int.reduceLT, Int.reduceEq, UInt8.reduceOfNat, hq, e5]
      exact ⟨k - 1, by omega, _, i + 1, rfl, by omega, by rw [show p + (i + 1) = p + i + 1 by omega]; omega⟩
  · rw [List.drop_eq_nil_of_le (by omega)] at hx
    simp only [sumAt, Nat.add_zero] at hx
    simp only [go_sem, ↓reduceIte, reduceCtorEq, upd_ne, back_new (no_at), Nat.reduceAdd, Nat.reduceEqDiff, Nat.reduceMul, Nat.reduceSub, Nat.reduceLeDiff, Nat.reduceLT, Int.reduceToNat, Int.reduceLE, Int.reduceLT, Int.reduceEq, UInt8.reduceOfNat, Nxt, exIf, hx]

theorem ev_Of (ps : List (List UInt8)) (hl : ps.length ≤ 1000) (ht : ps.flatten.length ≤ 140737488351232) : S.ev (n + 2) id_sum_Of [.lst none (ps.map .str)] none = some (.int .i64 (65535 - (ones (sumAt 0 ps.flatten) : Nat)), none) := by
  rw [Sys.step hS.h_sum_Of, F_sum_Of_eq]
  unfold F_sum_Of
  (try simp only [guard_merge, or_merge, and_merge, or_pick, and_pick, guard_or, guard_and]); simp only [to_ob]
  simp only [go_sem, ↓reduceIte, reduceCtorEq, upd_ne, back_new (no_at), Nat.reduceAdd, Nat.reduceEqDiff, Nat.reduceMul, Nat.reduceSub, Nat.reduceLeDiff, Nat.reduceLT, Int.reduceToNat, Int.reduceLE, Int.reduceLT, Int.reduceEq, UInt8.reduceOfNat, List.length_map]
  refine while_rule (fun k q => ∃ i : Nat, q = ([.int .i64 (ones (sumAt 0 (ps.take i).flatten) : Nat), .int .i64 ((ps.take i).flatten.length : Nat), .int .i64 (i : Int)], noSlots) ∧ i + k = ps.length) ps.length ⟨0, by simp [ones, sumAt], by simp⟩ ?_
  rintro k q ⟨i, rfl, hi⟩
  simp only [go_sem, ↓reduceIte, reduceCtorEq, upd_ne, back_new (no_at), Nat.reduceAdd, Nat.reduceEqDiff, Nat.reduceMul, Nat.reduceSub, Nat.reduceLeDiff, Nat.reduceLT, Int.reduceToNat, Int.reduceLE, Int.reduceLT, Int.reduceEq, UInt8.reduceOfNat]
  refine nxt_ite (fun h => ?_) (fun h => ?_)
  · have hlt : i < ps.length := by omega
    obtain ⟨s, hs⟩ : ∃ s, ps[i]? = some s := ⟨ps[i], by simp [hlt]⟩
    have htk : ps.take (i + 1) = ps.take i ++ [s] := by
      rw [List.take_add_one, hs]; rfl
    have hfl : (ps.take (i + 1)).flatten = (ps.take i).flatten ++ s := by rw [htk]; simp
    have hle : ((ps.take i).flatten ++ s).length ≤ 140737488351232 := by
      rw [← hfl]
      refine Nat.le_trans ?_ ht
      conv => rhs; rw [← List.take_append_drop (i + 1) ps, List.flatten_append]
      simp
    rw [List.length_append] at hle
    generalize (ps.take i).flatten = u at *
    have ho := ones_le (sumAt 0 u)
    have hsl := sumAt_le s u.length
    have h1 := ev_add hS n (ones (sumAt 0 u)) u.length s (by omega) (by omega)
    have h2 := ev_fold hS n (ones (sumAt 0 u) + sumAt u.length s) (by omega)
    have e1 : IntKind.i64.wrap ((u.length : Int) + (s.length : Int)) = ((u ++ s).length : Nat) := by
      rw [wrap_id (by omega) (by omega), List.length_append]; omega
    have e2 : IntKind.i64.wrap ((i : Int) + 1) = ((i + 1 : Nat) : Int) := by rw [wrap_id (by omega) (by omega)]; omega
    rw [ones_add, show sumAt 0 u + sumAt u.length s = sumAt 0 (u ++ s) by rw [sumAt_append]; simp] at h2
    simp only [go_sem, ↓reduceIte, reduceCtorEq, upd_ne, back_new (no_at), Nat.reduceAdd, Nat.reduceEqDiff, Nat.reduceMul, Nat.reduceSub, Nat.reduceLeDiff, Nat.reduceLT, Int.reduceToNat, Int.reduceLE, Int.reduceLT, Int.reduceEq, UInt8.reduceOfNat, List.getElem?_map, Int.toNat_natCast, hs, h1, h2, e1, e2]
    exact ⟨k - 1, by omega, i + 1, by rw [hfl], by omega⟩
  · rw [List.take_of_length_le (by omega)]
    have ho := ones_le (sumAt 0 ps.flatten)
    have e1 : IntKind.i64.wrap (65535 - ((ones (sumAt 0 ps.flatten) : Nat) : Int)) = 65535 - ((ones (sumAt 0 ps.flatten) : Nat) : Int) := wrap_id (by omega) (by omega)
    simp only [go_sem, ↓reduceIte, reduceCtorEq, upd_ne, back_new (no_at), Nat.reduceAdd, Nat.reduceEqDiff, Nat.reduceMul, Nat.reduceSub, Nat.reduceLeDiff, Nat.reduceLT, Int.reduceToNat, Int.reduceLE, Int.reduceLT, Int.reduceEq, UInt8.reduceOfNat, Nxt, exIf, e1]
end
end Go.Ev

/- Layer 2: the document's sums. -/
namespace Go.Ev
set_option linter.unusedSimpArgs false
set_option linter.unusedVariables false
set_option maxRecDepth 4000
set_option maxHeartbeats 1000000

def wordsN : List UInt8 → List Nat
  | [] => []
  | [a] => [256 * a.toNat]
  | a :: b :: s => (256 * a.toNat + b.toNat) :: wordsN s

theorem wordsN_len : ∀ (s : List UInt8), (wordsN s).length = (s.length + 1) / 2
  | [] => rfl
  | [a] => by simp [wordsN]
  | a :: b :: s => by simp only [wordsN, List.length_cons, wordsN_len s]; omega
theorem wordsN_sum : ∀ (s : List UInt8), (wordsN s).sum = sumAt 0 s
  | [] => rfl
  | [a] => by simp [wordsN, sumAt]; omega
  | a :: b :: s => by
    simp only [wordsN, sumAt, List.sum_cons, wordsN_sum s]
    rw [show (0 + 1 + 1 : Nat) = 0 + 2 by rfl, sumAt_two]
    simp
    omega
theorem wordsN_le : ∀ (s : List UInt8), ∀ w ∈ wordsN s, w ≤ 65535
  | [], w, h => by simp [wordsN] at h
  | [a], w, h => by
    have := a.toNat_lt
    simp [wordsN] at h; omega
  | a :: b :: s, w, h => by
    have := a.toNat_lt
    have := b.toNat_lt
    simp only [wordsN, List.mem_cons] at h
    rcases h with h | h
    · omega
    · exact wordsN_le s w h
/-- The words of an even beginning. -/
theorem wordsN_take : ∀ (s : List UInt8) (i : Nat) (a b : UInt8), s[2 * i]? = some a → s[2 * i + 1]? = some b → wordsN (s.take (2 * (i + 1))) = wordsN (s.take (2 * i)) ++ [256 * a.toNat + b.toNat]
  | [], i, a, b, h, _ => by simp at h
  | [c], 0, a, b, h, h2 => by simp at h2
  | [c], i + 1, a, b, h, _ => by simp at h
  | c :: d :: s, 0, a, b, h, h2 => by
    simp at h h2
    subst h h2
    rfl
  | c :: d :: s, i + 1, a, b, h, h2 => by
    have h' : s[2 * i]? = some a := by rw [← h, show 2 * (i + 1) = 2 * i + 1 + 1 by omega]; simp
    have h2' : s[2 * i + 1]? = some b := by rw [← h2, show 2 * (i + 1) + 1 = 2 * i + 1 + 1 + 1 by omega]; simp
    have ih := wordsN_take s i a b h' h2'
    rw [show 2 * (i + 1 + 1) = 2 * (i + 1) + 1 + 1 by omega, show 2 * (i + 1) = 2 * i + 1 + 1 by omega]
    simp only [List.take_succ_cons, wordsN, List.cons_append]
    rw [← ih]
    rfl

theorem wordsN_odd : ∀ (s : List UInt8), s.length % 2 = 1 → wordsN (s ++ [0]) = wordsN s
  | [], h => by simp at h
  | [a], h => by simp [wordsN]
  | a :: b :: s, h => by
    simp only [List.cons_append, wordsN]
    rw [wordsN_odd s (by simp only [List.length_cons] at h; omega)]

abbrev intsLV (l : List Nat) : List LV := l.map fun (w : Nat) => LV.int .i64 (w : Int)

theorem wAppend_tag {e by' d t g n sz : Nat} {sl : Slots} {l new : List LV} (hs : sl t = .tag g n sz) (hn : n = l.length) (hz : sz = e) (hl : (l.all fun v => decide (flatLen v = e)) = true) (hnew : (new.all fun v => decide (flatLen v = e)) = true) (hne : new ≠ []) (hb : (l.length + new.length) * by' ≤ 1099511627776) :
    wAppend e by' d sl (.lst (some (t, g)) l) (.lst none new) = some (.lst (some (t, g)) (l ++ new), upd sl t (.tag g (n + new.length) sz)) := by
  simp only [wAppend, newEls, hnew, if_true, Option.bind_some, hne, if_false, hs]
  rw [if_pos ⟨trivial, hn, hz, hl, hb⟩]
theorem ints_flat (l : List Nat) : ((intsLV l).all fun v => decide (flatLen v = 1)) = true := by
  rw [List.all_eq_true]
  intro v hv
  obtain ⟨w, _, rfl⟩ := List.mem_map.1 hv
  simp [flatLen]

section
variable {S : Sys} (hS : Has S) (n : Nat)
include hS

theorem ev_Words (s : List UInt8) (hs : s.length ≤ 1000000) : S.ev (n + 1) id_interpreterref02_Words [.str s] none = some (.lst none (intsLV (wordsN s)), none) := by
  rw [Sys.step hS.h_interpreterref02_Words, F_interpreterref02_Words_eq]
  unfold F_interpreterref02_Words
  (try simp only [guard_merge, or_merge, and_merge, or_pick, and_pick, guard_or, guard_and]); simp only [to_ob]
  have e1 : Int.tmod (s.length : Int) 2 = ((s.length % 2 : Nat) : Int) := by rw [Int.tmod_eq_emod_of_nonneg (by omega)]; omega
  by_cases hpar : s.length % 2 = 1
  · have hq : ((s.length % 2 : Nat) : Int) = 1 := by omega
    have hms : s.length + (0 + 1) ≤ maxStr := by unfold maxStr; omega
    simp only [go_sem, ↓reduceIte, reduceCtorEq, upd_ne, back_new (no_at), Nat.reduceAdd, Nat.reduceEqDiff, Nat.reduceMul, Nat.reduceSub, Nat.reduceLeDiff, Nat.reduceLT, Int.reduceToNat, Int.reduceLE, Int.reduceLT, Int.reduceEq, UInt8.reduceOfNat, ↓e_sadd, e1, hq, hms]
    have hw := wordsN_odd s hpar
    have hlen : (s ++ [0]).length % 2 = 0 := by simp; omega
    have hle : (s ++ [0]).length ≤ 1000001 := by simp; omega
    generalize s ++ [0] = t at hw hlen hle
    rw [← hw]
    refine while_rule (fun k q => ∃ i : Nat, q = ([.lst (some (3, 1)) (intsLV (wordsN (t.take (2 * i)))), .int .i64 ((2 * i : Nat) : Int)], upd noSlots 3 (.tag 1 i 1)) ∧ 2 * (i + k) = t.length) (t.length / 2) ⟨0, by simp [wordsN], by omega⟩ ?_
    rintro k q ⟨i, rfl, hi⟩
    simp only [go_sem, ↓reduceIte, reduceCtorEq, upd_ne, back_new (no_at), Nat.reduceAdd, Nat.reduceEqDiff, Nat.reduceMul, Nat.reduceSub, Nat.reduceLeDiff, Nat.reduceLT, Int.reduceToNat, Int.reduceLE, Int.reduceLT, Int.reduceEq, UInt8.reduceOfNat]
    refine nxt_ite (fun h => ?_) (fun h => ?_)
    · have hlt : 2 * i < t.length := by omega
      obtain ⟨a, ha⟩ : ∃ a, t[2 * i]? = some a := ⟨t[2 * i], by simp [hlt]⟩
      have hlt2 : 2 * i + 1 < t.length := by omega
      obtain ⟨b, hb⟩ : ∃ b, t[2 * i + 1]? = some b := ⟨t[2 * i + 1], by simp [hlt2]⟩
      have hal := a.toNat_lt
      have hbl := b.toNat_lt
      have e2 : IntKind.i64.wrap (a.toNat : Int) = (a.toNat : Int) := wrap_id (by omega) (by omega)
      have e3 : IntKind.i64.wrap (b.toNat : Int) = (b.toNat : Int) := wrap_id (by omega) (by omega)
      have e4 : IntKind.i64.wrap (256 * (a.toNat : Int)) = ((256 * a.toNat : Nat) : Int) := by rw [wrap_id (by omega) (by omega)]; omega
      have e5 : IntKind.i64.wrap (((2 * i : Nat) : Int) + 1) = ((2 * i + 1 : Nat) : Int) := by rw [wrap_id (by omega) (by omega)]; omega
      have e6 : IntKind.i64.wrap (((256 * a.toNat : Nat) : Int) + (b.toNat : Int)) = ((256 * a.toNat + b.toNat : Nat) : Int) := by rw [wrap_id (by omega) (by omega)]; omega
      have e7 : IntKind.i64.wrap (((2 * i : Nat) : Int) + 2) = ((2 * (i + 1) : Nat) : Int) := by rw [wrap_id (by omega) (by omega)]; omega
      have hwl : (wordsN (t.take (2 * i))).length = i := by rw [wordsN_len, List.length_take]; omega
      have hap := wAppend_tag (e := 1) (by' := 8) (d := 32) (t := 3) (g := 1) (n := i) (sz := 1) (sl := upd noSlots 3 (.tag 1 i 1)) (l := intsLV (wordsN (t.take (2 * i)))) (new := [.int .i64 ((256 * a.toNat + b.toNat : Nat) : Int)]) upd_same (by simp [hwl]) rfl (ints_flat _) (by simp [flatLen]) (by simp) (by simp [hwl]; omega)
      simp only [go_sem, ↓reduceIte, reduceCtorEq, upd_ne, back_new (no_at), Nat.reduceAdd, Nat.reduceEqDiff, Nat.reduceMul, Nat.reduceSub, Nat.reduceLeDiff, Nat.reduceLT, Int.reduceToNat, Int.reduceLE, Int.reduceLT, Int.reduceEq, UInt8.reduceOfNat, List.getElem?_map, Int.toNat_natCast, ha, hb, e2, e3, e4, e5, e6, e7, hap]
      refine ⟨k - 1, by omega, i + 1, ?_, by omega⟩
      rw [wordsN_take t i a b ha hb]
      simp
    · rw [List.take_of_length_le (by omega)]
      simp only [go_sem, ↓reduceIte, reduceCtorEq, upd_ne, back_new (no_at), Nat.reduceAdd, Nat.reduceEqDiff, Nat.reduceMul, Nat.reduceSub, Nat.reduceLeDiff, Nat.reduceLT, Int.reduceToNat, Int.reduceLE, Int.reduceLT, Int.reduceEq, UInt8.reduceOfNat, Nxt, exIf]
  · have hq : ¬ ((s.length % 2 : Nat) : Int) = 1 := by omega
    simp only [go_sem, ↓reduceIte, reduceCtorEq, upd_ne, back_new (no_at), Nat.reduceAdd, Nat.reduceEqDiff, Nat.reduceMul, Nat.reduceSub, Nat.reduceLeDiff, Nat.reduceLT, Int.reduceToNat, Int.reduceLE, Int.reduceLT, Int.reduceEq, UInt8.reduceOfNat, e1, hq]
    have hlen : s.length % 2 = 0 := by omega
    have hle : s.length ≤ 1000001 := by omega
    generalize s = t at hlen hle
    refine while_rule (fun k q => ∃ i : Nat, q = ([.lst (some (3, 1)) (intsLV (wordsN (t.take (2 * i)))), .int .i64 ((2 * i : Nat) : Int)], upd noSlots 3 (.tag 1 i 1)) ∧ 2 * (i + k) = t.length) (t.length / 2) ⟨0, by simp [wordsN], by omega⟩ ?_
    rintro k q ⟨i, rfl, hi⟩
    simp only [go_sem, ↓reduceIte, reduceCtorEq, upd_ne, back_new (no_at), Nat.reduceAdd, Nat.reduceEqDiff, Nat.reduceMul, Nat.reduceSub, Nat.reduceLeDiff, Nat.reduceLT, Int.reduceToNat, Int.reduceLE, Int.reduceLT, Int.reduceEq, UInt8.reduceOfNat]
    refine nxt_ite (fun h => ?_) (fun h => ?_)
    · have hlt : 2 * i < t.length := by omega
      obtain ⟨a, ha⟩ : ∃ a, t[2 * i]? = some a := ⟨t[2 * i], by simp [hlt]⟩
      have hlt2 : 2 * i + 1 < t.length := by omega
      obtain ⟨b, hb⟩ : ∃ b, t[2 * i + 1]? = some b := ⟨t[2 * i + 1], by simp [hlt2]⟩
      have hal := a.toNat_lt
      have hbl := b.toNat_lt
      have e2 : IntKind.i64.wrap (a.toNat : Int) = (a.toNat : Int) := wrap_id (by omega) (by omega)
      have e3 : IntKind.i64.wrap (b.toNat : Int) = (b.toNat : Int) := wrap_id (by omega) (by omega)
      have e4 : IntKind.i64.wrap (256 * (a.toNat : Int)) = ((256 * a.toNat : Nat) : Int) := by rw [wrap_id (by omega) (by omega)]; omega
      have e5 : IntKind.i64.wrap (((2 * i : Nat) : Int) + 1) = ((2 * i + 1 : Nat) : Int) := by rw [wrap_id (by omega) (by omega)]; omega
      have e6 : IntKind.i64.wrap (((256 * a.toNat : Nat) : Int) + (b.toNat : Int)) = ((256 * a.toNat + b.toNat : Nat) : Int) := by rw [wrap_id (by omega) (by omega)]; omega
      have e7 : IntKind.i64.wrap (((2 * i : Nat) : Int) + 2) = ((2 * (i + 1) : Nat) : Int) := by rw [wrap_id (by omega) (by omega)]; omega
      have hwl : (wordsN (t.take (2 * i))).length = i := by rw [wordsN_len, List.length_take]; omega
      have hap := wAppend_tag (e := 1) (by' := 8) (d := 32) (t := 3) (g := 1) (n := i) (sz := 1) (sl := upd noSlots 3 (.tag 1 i 1)) (l := intsLV (wordsN (t.take (2 * i)))) (new := [.int .i64 ((256 * a.toNat + b.toNat : Nat) : Int)]) upd_same (by simp [hwl]) rfl (ints_flat _) (by simp [flatLen]) (by simp) (by simp [hwl]; omega)
      simp only [go_sem, ↓reduceIte, reduceCtorEq, upd_ne, back_new (no_at), Nat.reduceAdd, Nat.reduceEqDiff, Nat.reduceMul, Nat.reduceSub, Nat.reduceLeDiff, Nat.reduceLT, Int.reduceToNat, Int.reduceLE, Int.reduceLT, Int.reduceEq, UInt8.reduceOfNat, List.getElem?_map, Int.toNat_natCast, ha, hb, e2, e3, e4, e5, e6, e7, hap]
      refine ⟨k - 1, by omega, i + 1, ?_, by omega⟩
      rw [wordsN_take t i a b ha hb]
      simp
    · rw [List.take_of_length_le (by omega)]
      simp only [go_sem, ↓reduceIte, reduceCtorEq, upd_ne, back_new (no_at), Nat.reduceAdd, Nat.reduceEqDiff, Nat.reduceMul, Nat.reduceSub, Nat.reduceLeDiff, Nat.reduceLT, Int.reduceToNat, Int.reduceLE, Int.reduceLT, Int.reduceEq, UInt8.reduceOfNat, Nxt, exIf]
end
end Go.Ev

/- Layers 1 and 2: numbers as bytes; the document's sums. -/
namespace Go.Ev
set_option linter.unusedSimpArgs false
set_option linter.unusedVariables false
set_option maxRecDepth 4000
set_option maxHeartbeats 2000000

/-- A number's n bytes. -/
def beB (n x : Nat) : List UInt8 := (List.range n).map fun i => UInt8.ofNat (x / 256 ^ (n - 1 - i))
theorem beB_len (n x : Nat) : (beB n x).length = n := by simp [beB]
theorem beB_get {n x i : Nat} (h : i < n) : (beB n x)[i]? = some (UInt8.ofNat (x / 256 ^ (n - 1 - i))) := by simp [beB, h]

theorem u8_wrap (y : Nat) : IntKind.u8.wrap (y : Int) = ((y % 256 : Nat) : Int) := by
  simp [IntKind.wrap, IntKind.bits, IntKind.signed]

theorem set_mid {b : List UInt8} {n i : Nat} {c : UInt8} (hb : b.length = n) (hi : i < n) (hc : b[i]? = some c) :
    (b.take i ++ List.replicate (n - i) 0).set i c = b.take (i + 1) ++ List.replicate (n - (i + 1)) 0 := by
  have e : List.replicate (n - i) (0 : UInt8) = 0 :: List.replicate (n - (i + 1)) 0 := by
    rw [show n - i = (n - (i + 1)) + 1 by omega, List.replicate_succ]
  rw [e, List.take_add_one, hc]
  have hl : (b.take i).length = i := by rw [List.length_take]; omega
  rw [List.set_append]
  rw [if_neg (by omega), hl]
  simp

section
variable {S : Sys} (hS : Has S) (n : Nat)
include hS

theorem ev_Total (l : List Nat) (h1 : ∀ w ∈ l, w ≤ 65535) (h2 : l.length ≤ 1000000) : S.ev (n + 1) id_interpreterref02_Total [.lst none (intsLV l)] none = some (.int .i64 (ones l.sum : Nat), none) := by
  rw [Sys.step hS.h_interpreterref02_Total, F_interpreterref02_Total_eq]
  unfold F_interpreterref02_Total
  (try simp only [guard_merge, or_merge, and_merge, or_pick, and_pick, guard_or, guard_and]); simp only [to_ob]
  simp only [go_sem, ↓reduceIte, reduceCtorEq, upd_ne, back_new (no_at), Nat.reduceAdd, Nat.reduceEqDiff, Nat.reduceMul, Nat.reduceSub, Nat.reduceLeDiff, Nat.reduceLT, Int.reduceToNat, Int.reduceLE, Int.reduceLT, Int.reduceEq, UInt8.reduceOfNat]
  have hsum : ∀ i, (l.take i).sum ≤ 65535 * i := by
    intro i
    induction i with
    | zero => simp
    | succ i ih =>
      rw [List.take_add_one]
      cases hc : l[i]? with
      | none => simp; omega
      | some w =>
        have := h1 w (List.mem_of_getElem? hc)
        simp; omega
  have hs : l.sum ≤ 65535 * l.length := by have := hsum l.length; rwa [List.take_length] at this
  refine while_rule (fun k q => ∃ i : Nat, q = ([.int .i64 ((l.take i).sum : Nat), .int .i64 (i : Int)], noSlots) ∧ i + k = l.length) l.length ⟨0, by simp, by simp⟩ ?_
  rintro k q ⟨i, rfl, hi⟩
  simp only [go_sem, ↓reduceIte, reduceCtorEq, upd_ne, back_new (no_at), Nat.reduceAdd, Nat.reduceEqDiff, Nat.reduceMul, Nat.reduceSub, Nat.reduceLeDiff, Nat.reduceLT, Int.reduceToNat, Int.reduceLE, Int.reduceLT, Int.reduceEq, UInt8.reduceOfNat, List.length_map]
  refine nxt_ite (fun h => ?_) (fun h => ?_)
  · have hlt : i < l.length := by omega
    obtain ⟨w, hw⟩ : ∃ w, l[i]? = some w := ⟨l[i], by simp [hlt]⟩
    have := h1 w (List.mem_of_getElem? hw)
    have hb := hsum i
    have e1 : IntKind.i64.wrap (((l.take i).sum : Nat) + (w : Int)) = ((l.take (i + 1)).sum : Nat) := by
      rw [wrap_id (by omega) (by omega), List.take_add_one, hw]; simp
    have e2 : IntKind.i64.wrap ((i : Int) + 1) = ((i + 1 : Nat) : Int) := by rw [wrap_id (by omega) (by omega)]; omega
    simp only [go_sem, ↓reduceIte, reduceCtorEq, upd_ne, back_new (no_at), Nat.reduceAdd, Nat.reduceEqDiff, Nat.reduceMul, Nat.reduceSub, Nat.reduceLeDiff, Nat.reduceLT, Int.reduceToNat, Int.reduceLE, Int.reduceLT, Int.reduceEq, UInt8.reduceOfNat, List.getElem?_map, Int.toNat_natCast, hw, e1, e2]
    exact ⟨k - 1, by omega, i + 1, rfl, by omega⟩
  · rw [List.take_of_length_le (by omega)]
    simp only [go_sem, ↓reduceIte, reduceCtorEq, upd_ne, back_new (no_at), Nat.reduceAdd, Nat.reduceEqDiff, Nat.reduceMul, Nat.reduceSub, Nat.reduceLeDiff, Nat.reduceLT, Int.reduceToNat, Int.reduceLE, Int.reduceLT, Int.reduceEq, UInt8.reduceOfNat, Nxt, exIf]
    refine while_rule (fun k q => ∃ x : Nat, q = ([.int .i64 (x : Int)], noSlots) ∧ k = x ∧ ones x = ones l.sum ∧ x ≤ 9223372036854775807) l.sum ⟨_, rfl, rfl, rfl, by omega⟩ ?_
    rintro k q ⟨x, rfl, rfl, hx, hb⟩
    simp only [go_sem, ↓reduceIte, reduceCtorEq, upd_ne, back_new (no_at), Nat.reduceAdd, Nat.reduceEqDiff, Nat.reduceMul, Nat.reduceSub, Nat.reduceLeDiff, Nat.reduceLT, Int.reduceToNat, Int.reduceLE, Int.reduceLT, Int.reduceEq, UInt8.reduceOfNat]
    refine nxt_ite (fun h => ?_) (fun h => ?_)
    · have e1 : IntKind.i64.wrap (Int.tdiv (k : Int) 65536) = ((k / 65536 : Nat) : Int) := by
        rw [show Int.tdiv (k : Int) 65536 = ((k / 65536 : Nat) : Int) from rfl, wrap_id (by omega) (by omega)]
      have e2 : Int.tmod (k : Int) 65536 = ((k % 65536 : Nat) : Int) := rfl
      have e3 : IntKind.i64.wrap (((k / 65536 : Nat) : Int) + ((k % 65536 : Nat) : Int)) = ((k / 65536 + k % 65536 : Nat) : Int) := by
        rw [wrap_id (by omega) (by omega)]; omega
      have hk : 65535 < k := by omega
      simp only [go_sem, ↓reduceIte, reduceCtorEq, upd_ne, back_new (no_at), Nat.reduceAdd, Nat.reduceEqDiff, Nat.reduceMul, Nat.reduceSub, Nat.reduceLeDiff, Nat.reduceLT, Int.reduceToNat, Int.reduceLE, Int.reduceLT, Int.reduceEq, UInt8.reduceOfNat, e1, e2, e3]
      exact ⟨_, by omega, _, rfl, rfl, by rw [ones_step hk, hx], by omega⟩
    · have hk : k ≤ 65535 := by omega
      simp only [go_sem, ↓reduceIte, reduceCtorEq, upd_ne, back_new (no_at), Nat.reduceAdd, Nat.reduceEqDiff, Nat.reduceMul, Nat.reduceSub, Nat.reduceLeDiff, Nat.reduceLT, Int.reduceToNat, Int.reduceLE, Int.reduceLT, Int.reduceEq, UInt8.reduceOfNat, Nxt, exIf]
      rw [← hx, ones_small hk]

theorem ev_rOf (s : List UInt8) (hs : s.length ≤ 1000000) : S.ev (n + 2) id_interpreterref02_Of [.str s] none = some (.int .i64 (65535 - (ones (sumAt 0 s) : Nat)), none) := by
  rw [Sys.step hS.h_interpreterref02_Of, F_interpreterref02_Of_eq]
  unfold F_interpreterref02_Of
  have h1 := ev_Words hS n s hs
  have h2 := ev_Total hS n (wordsN s) (wordsN_le s) (by rw [wordsN_len]; omega)
  rw [wordsN_sum] at h2
  have ho := ones_le (sumAt 0 s)
  have e1 : IntKind.i64.wrap (65535 - ((ones (sumAt 0 s) : Nat) : Int)) = 65535 - ((ones (sumAt 0 s) : Nat) : Int) := wrap_id (by omega) (by omega)
  (try simp only [guard_merge, or_merge, and_merge, or_pick, and_pick, guard_or, guard_and]); simp only [to_ob]
  simp only [go_sem, ↓reduceIte, reduceCtorEq, upd_ne, back_new (no_at), Nat.reduceAdd, Nat.reduceEqDiff, Nat.reduceMul, Nat.reduceSub, Nat.reduceLeDiff, Nat.reduceLT, Int.reduceToNat, Int.reduceLE, Int.reduceLT, Int.reduceEq, UInt8.reduceOfNat, h1, h2, e1]

/-- A number's bytes, or why it has none. -/
def bigR (x : Int) (m : Nat) : LV := if 0 ≤ x ∧ x < ((256 ^ m : Nat) : Int) then .tup [.str (beB m x.toNat), .nili] else .tup [.str [], faultLV 13]

theorem ev_Big (x : Int) (m : Nat) (hm : m = 1 ∨ m = 2 ∨ m = 4) (hx : I64 x) : S.ev (n + 1) id_num_Big [.int .i64 x, .int .i64 (m : Int)] none = some (bigR x m, none) := by
  rw [Sys.step hS.h_num_Big, F_num_Big_eq]
  unfold F_num_Big
  (try simp only [guard_merge, or_merge, and_merge, or_pick, and_pick, guard_or, guard_and]); simp only [to_ob]
  have f1 : ¬ ((¬ (m : Int) = 1 ∧ ¬ (m : Int) = 2) ∧ ¬ (m : Int) = 4) := by omega
  have e1 : IntKind.i64.wrap (8 * (m : Int)) = ((8 * m : Nat) : Int) := by rw [wrap_id (by omega) (by omega)]; omega
  have e2 : IntKind.i64.wrap (1 * 2 ^ min (8 * m) 64) = ((256 ^ m : Nat) : Int) := by
    rcases hm with rfl | rfl | rfl <;> rfl
  have f2 : ¬ ((8 * m : Nat) : Int) < 0 := by omega
  unfold bigR
  by_cases c : 0 ≤ x ∧ x < ((256 ^ m : Nat) : Int)
  · have c' : ¬ (x < 0 ∨ ((256 ^ m : Nat) : Int) ≤ x) := by omega
    rw [if_pos c]
    obtain ⟨y, rfl⟩ := Int.eq_ofNat_of_zero_le c.1
    have hm4 : m ≤ 4 := by omega
    have hy : (y : Int) ≤ 9223372036854775807 := hx.2
    have f3 : (m : Int) ≤ 1099511627776 := by omega
    have f4 : (0 : Int) ≤ (m : Int) := by omega
    simp only [go_sem, ↓reduceIte, reduceCtorEq, upd_ne, back_new (no_at), Nat.reduceAdd, Nat.reduceEqDiff, Nat.reduceMul, Nat.reduceSub, Nat.reduceLeDiff, Nat.reduceLT, Int.reduceToNat, Int.reduceLE, Int.reduceLT, Int.reduceEq, UInt8.reduceOfNat, f1, e1, e2, f2, c', f3, f4, Int.le_refl, List.length_replicate]
    refine while_rule (fun k q => ∃ i : Nat, q = ([.int .i64 (i : Int)], upd noSlots 36 (.obj 1 (.bytes ((beB m y).take i ++ List.replicate (m - i) 0)))) ∧ i + k = m) m ⟨0, by simp, by simp⟩ ?_
    rintro k q ⟨i, rfl, hi⟩
    simp only [go_sem, ↓reduceIte, reduceCtorEq, upd_ne, back_new (no_at), Nat.reduceAdd, Nat.reduceEqDiff, Nat.reduceMul, Nat.reduceSub, Nat.reduceLeDiff, Nat.reduceLT, Int.reduceToNat, Int.reduceLE, Int.reduceLT, Int.reduceEq, UInt8.reduceOfNat]
    refine nxt_ite (fun h => ?_) (fun h => ?_)
    · have hlt : i < m := by omega
      have g1 : IntKind.i64.wrap ((m : Int) - 1) = ((m - 1 : Nat) : Int) := by rw [wrap_id (by omega) (by omega)]; omega
      have g2 : IntKind.i64.wrap (((m - 1 : Nat) : Int) - (i : Int)) = ((m - 1 - i : Nat) : Int) := by rw [wrap_id (by omega) (by omega)]; omega
      have g3 : IntKind.i64.wrap (8 * ((m - 1 - i : Nat) : Int)) = ((8 * (m - 1 - i) : Nat) : Int) := by rw [wrap_id (by omega) (by omega)]; omega
      have g4 : ¬ ((8 * (m - 1 - i) : Nat) : Int) < 0 := by omega
      have g5 : Int.fdiv (y : Int) (2 ^ min (8 * (m - 1 - i)) 64) = ((y / 256 ^ (m - 1 - i) : Nat) : Int) := by
        have p1 : ((2 : Int) ^ (8 * (m - 1 - i))) = ((256 ^ (m - 1 - i) : Nat) : Int) := by
          rw [show (256 : Nat) = 2 ^ 8 from rfl, ← Nat.pow_mul]; simp
        rw [Nat.min_eq_left (by omega), p1, Int.fdiv_eq_ediv_of_nonneg _ (Int.natCast_nonneg _)]
        rfl
      have hl : ((beB m y).take i ++ List.replicate (m - i) 0).length = m := by rw [List.length_append, List.length_take, beB_len, List.length_replicate]; omega
      obtain ⟨c0, hc0⟩ : ∃ c0, ((beB m y).take i ++ List.replicate (m - i) 0)[i]? = some c0 := ⟨_, List.getElem?_eq_getElem (by omega)⟩
      have g6 : ((y / 256 ^ (m - 1 - i) % 256 : Nat) : Int) < 256 := by omega
      have g7 : (UInt8.ofNat (y / 256 ^ (m - 1 - i) % 256)) = UInt8.ofNat (y / 256 ^ (m - 1 - i)) := by
        apply UInt8.toNat_inj.1; simp
      have g8 := set_mid (beB_len m y) hlt (beB_get hlt)
      have g9 : IntKind.i64.wrap ((i : Int) + 1) = ((i + 1 : Nat) : Int) := by rw [wrap_id (by omega) (by omega)]; omega
      simp only [go_sem, ↓reduceIte, reduceCtorEq, upd_ne, back_new (no_at), Nat.reduceAdd, Nat.reduceEqDiff, Nat.reduceMul, Nat.reduceSub, Nat.reduceLeDiff, Nat.reduceLT, Int.reduceToNat, Int.reduceLE, Int.reduceLT, Int.reduceEq, UInt8.reduceOfNat, List.getElem?_map, Int.toNat_natCast, g1, g2, g3, g4, g5, u8_wrap, hl, hc0, hlt, byteLV, g6, g7, g8, g9]
      exact ⟨k - 1, by omega, i + 1, rfl, by omega⟩
    · rw [List.take_of_length_le (by rw [beB_len]; omega), show m - i = 0 by omega]
      have hb := beB_len m y
      have hb2 : m ≤ (beB m y).length := by omega
      have htk : (beB m y).take m = beB m y := List.take_of_length_le (by omega)
      simp only [go_sem, ↓reduceIte, reduceCtorEq, upd_ne, back_new (no_at), Nat.reduceAdd, Nat.reduceEqDiff, Nat.reduceMul, Nat.reduceSub, Nat.reduceLeDiff, Nat.reduceLT, Int.reduceToNat, Int.reduceLE, Int.reduceLT, Int.reduceEq, UInt8.reduceOfNat, Nxt, exIf, hb, htk, Nat.le_refl, Int.toNat_natCast]
  · have c' : x < 0 ∨ ((256 ^ m : Nat) : Int) ≤ x := by omega
    rw [if_neg c]
    simp only [go_sem, ↓reduceIte, reduceCtorEq, upd_ne, back_new (no_at), Nat.reduceAdd, Nat.reduceEqDiff, Nat.reduceMul, Nat.reduceSub, Nat.reduceLeDiff, Nat.reduceLT, Int.reduceToNat, Int.reduceLE, Int.reduceLT, Int.reduceEq, UInt8.reduceOfNat, f1, e1, e2, f2, c']
end
end Go.Ev

/- Layer 5: datagrams. -/
namespace Go.Ev
set_option linter.unusedSimpArgs false
set_option linter.unusedVariables false
set_option maxRecDepth 4000
set_option maxHeartbeats 2000000

theorem len8 {s : List UInt8} (h : 8 ≤ s.length) : ∃ a b c d e f g i t, s = a :: b :: c :: d :: e :: f :: g :: i :: t := by
  match s, h with
  | a :: b :: c :: d :: e :: f :: g :: i :: t, _ => exact ⟨a, b, c, d, e, f, g, i, t, rfl⟩

abbrev w16 (a b : UInt8) : Nat := 256 * a.toNat + b.toNat
theorem w16_or (a b : UInt8) : bitsOf .or .i64 (((a.toNat * 256 : Nat)) : Int) (b.toNat : Int) = ((w16 a b : Nat) : Int) := by
  have ha := a.toNat_lt
  have hb := b.toNat_lt
  rw [bits_or_nat (by simp [IntKind.max, IntKind.signed, IntKind.bits]; omega) (by simp [IntKind.max, IntKind.signed, IntKind.bits]; omega)]
  congr 1
  show _ = 256 * a.toNat + b.toNat
  rw [show a.toNat * 256 = a.toNat <<< 8 by rw [Nat.shiftLeft_eq], ← Nat.shiftLeft_add_eq_or_of_lt hb, Nat.shiftLeft_eq]
  simp only [Nat.reducePow]
  omega

abbrev dgLV (fr to su : Int) (da : List UInt8) : LV := .agg [.int .i64 fr, .int .i64 to, .int .i64 su, .str da]

def udpE (c : Int) : LV := if c = 0 then .nili else faultLV c
theorem ue_ag {c : Int} : LV.isAgg (udpE c) = false := by unfold udpE faultLV; split <;> exact Eq.trans rfl rfl
theorem ue_st {c : Int} : stor (udpE c) = true := by unfold udpE faultLV; split <;> exact Eq.trans rfl rfl
theorem ue_pl {c : Int} : plainRes (udpE c) = true := by unfold udpE faultLV; split <;> exact Eq.trans rfl rfl
theorem ue_fl {c : Int} : flatLen (udpE c) = 1 := by unfold udpE faultLV; split <;> simp only [flatLen]
theorem ue_ps {c : Int} : psl (udpE c) = some (udpE c) := by unfold udpE faultLV; split <;> simp only [psl]
theorem ue_sv {c : Int} {sl : Slots} : sealV sl (udpE c) = some (udpE c) := by unfold udpE faultLV; split <;> simp only [sealV, psl]
theorem ue_ov {c : Int} {sl : Slots} : outV none sl (udpE c) = some (udpE c) := by unfold udpE faultLV; split <;> simp only [outV, sealV, psl]
attribute [go_sem ↓] ue_ag ue_st ue_pl ue_fl ue_ps ue_sv ue_ov
section
variable {S : Sys} (hS : Has S) (n : Nat)
include hS

theorem ev_fault5 (c : Int) : S.ev (n + 1) id_udp_fault [.int .i64 c] none = some (faultLV c, none) := by
  rw [Sys.step hS.h_udp_fault, F_udp_fault_eq]
  unfold F_udp_fault
  simp only [to_ob]
  simp only [go_sem, ↓reduceIte, reduceCtorEq, upd_ne, back_new (no_at), Nat.reduceAdd, Nat.reduceEqDiff, Nat.reduceMul, Nat.reduceSub, Nat.reduceLeDiff, Nat.reduceLT, Int.reduceToNat, Int.reduceLE, Int.reduceLT, Int.reduceEq, UInt8.reduceOfNat]

theorem ev_two5 (s : List UInt8) (i : Nat) (a b : UInt8) (ha : s[i]? = some a) (hb : s[i + 1]? = some b) (hi : i ≤ 1000000) : S.ev (n + 1) id_udp_two [.str s, .int .i64 (i : Int)] none = some (.int .i64 (w16 a b : Nat), none) := by
  rw [Sys.step hS.h_udp_two, F_udp_two_eq]
  unfold F_udp_two
  have hal := a.toNat_lt
  have hbl := b.toNat_lt
  have e1 : IntKind.i64.wrap (a.toNat : Int) = (a.toNat : Int) := wrap_id (by omega) (by omega)
  have e2 : IntKind.i64.wrap (b.toNat : Int) = (b.toNat : Int) := wrap_id (by omega) (by omega)
  have e3 : IntKind.i64.wrap ((i : Int) + 1) = ((i + 1 : Nat) : Int) := by rw [wrap_id (by omega) (by omega)]; omega
  have e4 : IntKind.i64.wrap ((a.toNat : Int) * 2 ^ min 8 64) = ((a.toNat * 256 : Nat) : Int) := by
    rw [show min 8 64 = 8 from rfl, wrap_id (by omega) (by omega)]; omega
  have e5 := w16_or a b
  simp only [to_ob]
  simp only [go_sem, ↓reduceIte, reduceCtorEq, upd_ne, back_new (no_at), Nat.reduceAdd, Nat.reduceEqDiff, Nat.reduceMul, Nat.reduceSub, Nat.reduceLeDiff, Nat.reduceLT, Int.reduceToNat, Int.reduceLE, Int.reduceLT, Int.reduceEq, UInt8.reduceOfNat, List.getElem?_map, Int.toNat_natCast, ha, hb, e1, e2, e3, e4, e5]

/-- What bytes are parsed as. -/
def udpP (s : List UInt8) : Int × Nat × Nat × Nat × List UInt8 := match s with
  | a :: b :: c :: d :: e :: f :: g :: i :: t => if w16 e f ≠ t.length + 8 then (8, 0, 0, 0, []) else (0, w16 a b, w16 c d, w16 g i, t)
  | _ => (7, 0, 0, 0, [])

theorem ev_parse5 (s : List UInt8) (hs : s.length ≤ 140737488351232) : S.ev (n + 2) id_udp_Parse [.str s] none = some (.tup [dgLV (udpP s).2.1 (udpP s).2.2.1 (udpP s).2.2.2.1 (udpP s).2.2.2.2, udpE (udpP s).1], none) := by
  rw [Sys.step hS.h_udp_Parse, F_udp_Parse_eq]
  unfold F_udp_Parse
  have hfa := ev_fault5 hS n
  (try simp only [guard_merge, or_merge, and_merge, or_pick, and_pick, guard_or, guard_and]); simp only [to_ob]
  by_cases h : 8 ≤ s.length
  · obtain ⟨a, b, c, d, e, f, g, i, t, rfl⟩ := len8 h
    generalize hq : (a :: b :: c :: d :: e :: f :: g :: i :: t) = s at *
    have h0 : S.ev (n + 1) id_udp_two [.str s, .int .i64 0] none = some (.int .i64 (w16 a b : Nat), none) := ev_two5 hS n s 0 a b (by rw [← hq]; rfl) (by rw [← hq]; rfl) (by omega)
    have h2 : S.ev (n + 1) id_udp_two [.str s, .int .i64 2] none = some (.int .i64 (w16 c d : Nat), none) := ev_two5 hS n s 2 c d (by rw [← hq]; rfl) (by rw [← hq]; rfl) (by omega)
    have h4 : S.ev (n + 1) id_udp_two [.str s, .int .i64 4] none = some (.int .i64 (w16 e f : Nat), none) := ev_two5 hS n s 4 e f (by rw [← hq]; rfl) (by rw [← hq]; rfl) (by omega)
    have h6 : S.ev (n + 1) id_udp_two [.str s, .int .i64 6] none = some (.int .i64 (w16 g i : Nat), none) := ev_two5 hS n s 6 g i (by rw [← hq]; rfl) (by rw [← hq]; rfl) (by omega)
    have hd : s.drop 8 = t := by rw [← hq]; rfl
    have hl : s.length = t.length + 8 := by rw [← hq]; simp
    have ht8 : t.take (s.length - 8) = t := by rw [hl]; simp
    have c0 : ¬ (s.length : Int) < 8 := by omega
    have hp : udpP s = if w16 e f ≠ t.length + 8 then (8, 0, 0, 0, []) else (0, w16 a b, w16 c d, w16 g i, t) := by rw [← hq]; rfl
    rw [hp]
    by_cases c1 : w16 e f = t.length + 8
    · have c2 : ((w16 e f : Nat) : Int) = (s.length : Int) := by omega
      rw [if_neg (by omega)]
      simp only [go_sem, ↓reduceIte, reduceCtorEq, upd_ne, back_new (no_at), Nat.reduceAdd, Nat.reduceEqDiff, Nat.reduceMul, Nat.reduceSub, Nat.reduceLeDiff, Nat.reduceLT, Int.reduceToNat, Int.reduceLE, Int.reduceLT, Int.reduceEq, UInt8.reduceOfNat, c0, c2, h0, h2, h4, h6, hd, h, ht8, udpE]
    · have c2 : ¬ ((w16 e f : Nat) : Int) = (s.length : Int) := by omega
      rw [if_pos c1]
      simp only [go_sem, ↓reduceIte, reduceCtorEq, upd_ne, back_new (no_at), Nat.reduceAdd, Nat.reduceEqDiff, Nat.reduceMul, Nat.reduceSub, Nat.reduceLeDiff, Nat.reduceLT, Int.reduceToNat, Int.reduceLE, Int.reduceLT, Int.reduceEq, UInt8.reduceOfNat, c0, c2, h4, hfa, udpE]
      try rfl
  · have c0 : (s.length : Int) < 8 := by omega
    have hp : udpP s = (7, 0, 0, 0, []) := by
      unfold udpP
      split
      · exfalso; simp at h
      · rfl
    rw [hp]
    simp only [go_sem, ↓reduceIte, reduceCtorEq, upd_ne, back_new (no_at), Nat.reduceAdd, Nat.reduceEqDiff, Nat.reduceMul, Nat.reduceSub, Nat.reduceLeDiff, Nat.reduceLT, Int.reduceToNat, Int.reduceLE, Int.reduceLT, Int.reduceEq, UInt8.reduceOfNat, c0, hfa, udpE]
    try rfl
theorem ev_rparse5 (s : List UInt8) (hs : s.length ≤ 140737488351232) : S.ev (n + 2) id_interpreterref05_Parse [.str s] none = some (.tup [dgLV (udpP s).2.1 (udpP s).2.2.1 (udpP s).2.2.2.1 (udpP s).2.2.2.2, .int .i64 (udpP s).1], none) := by
  rw [Sys.step hS.h_interpreterref05_Parse, F_interpreterref05_Parse_eq]
  unfold F_interpreterref05_Parse
  (try simp only [guard_merge, or_merge, and_merge, or_pick, and_pick, guard_or, guard_and]); simp only [to_ob]
  by_cases h : 8 ≤ s.length
  · obtain ⟨a, b, c, d, e, f, g, i, t, rfl⟩ := len8 h
    have hw := ev_Words hS n [a, b, c, d, e, f, g, i] (by simp)
    generalize hq : (a :: b :: c :: d :: e :: f :: g :: i :: t) = s at *
    have ht : s.take 8 = [a, b, c, d, e, f, g, i] := by rw [← hq]; rfl
    have hd : s.drop 8 = t := by rw [← hq]; rfl
    have hl : s.length = t.length + 8 := by rw [← hq]; simp
    have ht8 : t.take (s.length - 8) = t := by rw [hl]; simp
    have c0 : ¬ (s.length : Int) < 8 := by omega
    have hp : udpP s = if w16 e f ≠ t.length + 8 then (8, 0, 0, 0, []) else (0, w16 a b, w16 c d, w16 g i, t) := by rw [← hq]; rfl
    rw [hp]
    simp only [wordsN, intsLV, List.map_cons, List.map_nil] at hw
    by_cases c1 : w16 e f = t.length + 8
    · have c2 : ((w16 e f : Nat) : Int) = (s.length : Int) := by omega
      rw [if_neg (by omega)]
      simp only [go_sem, ↓reduceIte, reduceCtorEq, upd_ne, back_new (no_at), Nat.reduceAdd, Nat.reduceEqDiff, Nat.reduceMul, Nat.reduceSub, Nat.reduceLeDiff, Nat.reduceLT, Int.reduceToNat, Int.reduceLE, Int.reduceLT, Int.reduceEq, UInt8.reduceOfNat, c0, c2, hw, hd, h, ht, Nat.sub_zero, ht8]
    · have c2 : ¬ ((w16 e f : Nat) : Int) = (s.length : Int) := by omega
      rw [if_pos c1]
      simp only [go_sem, ↓reduceIte, reduceCtorEq, upd_ne, back_new (no_at), Nat.reduceAdd, Nat.reduceEqDiff, Nat.reduceMul, Nat.reduceSub, Nat.reduceLeDiff, Nat.reduceLT, Int.reduceToNat, Int.reduceLE, Int.reduceLT, Int.reduceEq, UInt8.reduceOfNat, c0, c2, hw, hd, h, ht, Nat.sub_zero, ht8]
      try rfl
  · have c0 : (s.length : Int) < 8 := by omega
    have hp : udpP s = (7, 0, 0, 0, []) := by
      unfold udpP
      split
      · exfalso; simp at h
      · rfl
    rw [hp]
    simp only [go_sem, ↓reduceIte, reduceCtorEq, upd_ne, back_new (no_at), Nat.reduceAdd, Nat.reduceEqDiff, Nat.reduceMul, Nat.reduceSub, Nat.reduceLeDiff, Nat.reduceLT, Int.reduceToNat, Int.reduceLE, Int.reduceLT, Int.reduceEq, UInt8.reduceOfNat, c0]
    try rfl
end
end Go.Ev

/- Layer 5: datagrams, checked and written. -/
namespace Go.Ev
set_option linter.unusedSimpArgs false
set_option linter.unusedVariables false
set_option maxRecDepth 4000
set_option maxHeartbeats 2000000

/-- The sum of bytes. -/
def sumS (s : List UInt8) : Int := 65535 - (ones (sumAt 0 s) : Nat)
def udpC (s ps : List UInt8) : Int := if (udpP s).1 ≠ 0 then (udpP s).1 else if (udpP s).2.2.2.1 = 0 then 4 else if sumS (ps ++ s) ≠ 0 then 9 else 0
/-- A datagram's bytes but for its sum; its sum; its bytes. -/
def udpH (fr to : Int) (da : List UInt8) : List UInt8 := beB 2 fr.toNat ++ (beB 2 to.toNat ++ beB 2 (8 + da.length))
def udpX (fr to : Int) (da ps : List UInt8) : Int := sumS (ps ++ (udpH fr to da ++ ([0, 0] ++ da)))
def udpN (fr to : Int) (da ps : List UInt8) : Int := if udpX fr to da ps = 0 then 65535 else udpX fr to da ps
def udpW (fr to : Int) (da ps : List UInt8) : List UInt8 := udpH fr to da ++ (beB 2 (udpN fr to da ps).toNat ++ da)
def udpK (fr to : Int) (da : List UInt8) : Int := if (0 ≤ fr ∧ fr < 65536) ∧ 0 ≤ to ∧ to < 65536 then (if da.length ≤ 65527 then 0 else 3) else 13
def udpB (fr to : Int) (da ps : List UInt8) : List UInt8 := if udpK fr to da = 0 then udpW fr to da ps else []

theorem udpP_codes (s : List UInt8) : (udpP s).1 = 0 ∨ (udpP s).1 = 7 ∨ (udpP s).1 = 8 := by
  unfold udpP
  split
  · split
    · exact .inr (.inr rfl)
    · exact .inl rfl
  · exact .inr (.inl rfl)
theorem sumS_le (s : List UInt8) : 0 ≤ sumS s ∧ sumS s ≤ 65535 := by
  have := ones_le (sumAt 0 s)
  unfold sumS
  omega
theorem udpN_le (fr to : Int) (da ps : List UInt8) : 0 < udpN fr to da ps ∧ udpN fr to da ps ≤ 65535 := by
  have := sumS_le (ps ++ (udpH fr to da ++ ([0, 0] ++ da)))
  unfold udpN udpX
  split <;> omega

section
variable {S : Sys} (hS : Has S) (n : Nat)
include hS

theorem ev_Right2 (a b : List UInt8) (h : a.length + b.length ≤ 140737488351232) : S.ev (n + 3) id_sum_Right [.lst none [.str a, .str b]] none = some (.bool (decide (sumS (a ++ b) = 0)), none) := by
  rw [Sys.step hS.h_sum_Right, F_sum_Right_eq]
  unfold F_sum_Right
  have ho := ev_Of hS n [a, b] (by simp) (by simpa using h)
  simp only [List.map_cons, List.map_nil, List.flatten_cons, List.flatten_nil, List.append_nil] at ho
  (try simp only [guard_merge, or_merge, and_merge, or_pick, and_pick, guard_or, guard_and]); simp only [to_ob]
  simp only [go_sem, ↓reduceIte, reduceCtorEq, upd_ne, back_new (no_at), Nat.reduceAdd, Nat.reduceEqDiff, Nat.reduceMul, Nat.reduceSub, Nat.reduceLeDiff, Nat.reduceLT, Int.reduceToNat, Int.reduceLE, Int.reduceLT, Int.reduceEq, UInt8.reduceOfNat, ho, sumS]
  rfl

theorem ev_check5 (s ps : List UInt8) (hs : s.length ≤ 1000000) (hp : ps.length ≤ 1000000) : S.ev (n + 4) id_udp_Check [.str s, .str ps] none = some (udpE (udpC s ps), none) := by
  rw [Sys.step hS.h_udp_Check, F_udp_Check_eq]
  unfold F_udp_Check
  have h1 := ev_parse5 hS (n + 1) s (by omega)
  have h2 := ev_Right2 hS n ps s (by omega)
  have hfa := ev_fault5 hS (n + 2)
  (try simp only [guard_merge, or_merge, and_merge, or_pick, and_pick, guard_or, guard_and]); simp only [to_ob]
  unfold udpC
  by_cases c : (udpP s).1 = 0
  · rw [c] at h1
    simp only [udpE, if_true] at h1
    by_cases c2 : (udpP s).2.2.2.1 = 0
    · have c2' : (((udpP s).2.2.2.1 : Nat) : Int) = 0 := by omega
      simp only [go_sem, ↓reduceIte, reduceCtorEq, upd_ne, back_new (no_at), Nat.reduceAdd, Nat.reduceEqDiff, Nat.reduceMul, Nat.reduceSub, Nat.reduceLeDiff, Nat.reduceLT, Int.reduceToNat, Int.reduceLE, Int.reduceLT, Int.reduceEq, UInt8.reduceOfNat, h1, hfa, c, c2, c2', udpE]
    · have c2' : ¬ (((udpP s).2.2.2.1 : Nat) : Int) = 0 := by omega
      by_cases c3 : sumS (ps ++ s) = 0
      · simp only [go_sem, ↓reduceIte, reduceCtorEq, upd_ne, back_new (no_at), Nat.reduceAdd, Nat.reduceEqDiff, Nat.reduceMul, Nat.reduceSub, Nat.reduceLeDiff, Nat.reduceLT, Int.reduceToNat, Int.reduceLE, Int.reduceLT, Int.reduceEq, UInt8.reduceOfNat, h1, h2, hfa, c, c2, c2', c3, udpE]
      · simp only [go_sem, ↓reduceIte, reduceCtorEq, upd_ne, back_new (no_at), Nat.reduceAdd, Nat.reduceEqDiff, Nat.reduceMul, Nat.reduceSub, Nat.reduceLeDiff, Nat.reduceLT, Int.reduceToNat, Int.reduceLE, Int.reduceLT, Int.reduceEq, UInt8.reduceOfNat, h1, h2, hfa, c, c2, c2', c3, udpE]
  · simp only [udpE, c, if_false] at h1
    simp only [go_sem, ↓reduceIte, reduceCtorEq, upd_ne, back_new (no_at), Nat.reduceAdd, Nat.reduceEqDiff, Nat.reduceMul, Nat.reduceSub, Nat.reduceLeDiff, Nat.reduceLT, Int.reduceToNat, Int.reduceLE, Int.reduceLT, Int.reduceEq, UInt8.reduceOfNat, h1, c, udpE]
theorem ev_rcheck5 (s ps : List UInt8) (hs : s.length ≤ 400000) (hp : ps.length ≤ 400000) : S.ev (n + 3) id_interpreterref05_Check [.str s, .str ps] none = some (.int .i64 (udpC s ps), none) := by
  rw [Sys.step hS.h_interpreterref05_Check, F_interpreterref05_Check_eq]
  unfold F_interpreterref05_Check
  have h1 := ev_rparse5 hS n s (by omega)
  have h2 := ev_rOf hS n (ps ++ s) (by rw [List.length_append]; omega)
  have hm : ps.length + s.length ≤ maxStr := by unfold maxStr; omega
  (try simp only [guard_merge, or_merge, and_merge, or_pick, and_pick, guard_or, guard_and]); simp only [to_ob]
  unfold udpC
  have h2 : S.ev (n + 2) id_interpreterref02_Of [.str (ps ++ s)] none = some (.int .i64 (sumS (ps ++ s)), none) := h2
  by_cases c : (udpP s).1 = 0
  · rw [c] at h1
    by_cases c2 : (udpP s).2.2.2.1 = 0
    · have c2' : (((udpP s).2.2.2.1 : Nat) : Int) = 0 := by omega
      simp only [go_sem, ↓reduceIte, reduceCtorEq, upd_ne, back_new (no_at), Nat.reduceAdd, Nat.reduceEqDiff, Nat.reduceMul, Nat.reduceSub, Nat.reduceLeDiff, Nat.reduceLT, Int.reduceToNat, Int.reduceLE, Int.reduceLT, Int.reduceEq, UInt8.reduceOfNat, hm, h1, c, c2, c2']
    · have c2' : ¬ (((udpP s).2.2.2.1 : Nat) : Int) = 0 := by omega
      by_cases c3 : sumS (ps ++ s) = 0
      · simp only [go_sem, ↓reduceIte, reduceCtorEq, upd_ne, back_new (no_at), Nat.reduceAdd, Nat.reduceEqDiff, Nat.reduceMul, Nat.reduceSub, Nat.reduceLeDiff, Nat.reduceLT, Int.reduceToNat, Int.reduceLE, Int.reduceLT, Int.reduceEq, UInt8.reduceOfNat, hm, h1, h2, c, c2, c2', c3]
      · simp only [go_sem, ↓reduceIte, reduceCtorEq, upd_ne, back_new (no_at), Nat.reduceAdd, Nat.reduceEqDiff, Nat.reduceMul, Nat.reduceSub, Nat.reduceLeDiff, Nat.reduceLT, Int.reduceToNat, Int.reduceLE, Int.reduceLT, Int.reduceEq, UInt8.reduceOfNat, hm, h1, h2, c, c2, c2', c3]
  · simp only [go_sem, ↓reduceIte, reduceCtorEq, upd_ne, back_new (no_at), Nat.reduceAdd, Nat.reduceEqDiff, Nat.reduceMul, Nat.reduceSub, Nat.reduceLeDiff, Nat.reduceLT, Int.reduceToNat, Int.reduceLE, Int.reduceLT, Int.reduceEq, UInt8.reduceOfNat, hm, h1, c]

theorem ev_bytes5 (fr to su : Int) (da ps : List UInt8) (hf : I64 fr) (ht : I64 to) (hd : da.length ≤ 1000000) (hp : ps.length ≤ 1000000) :
    S.ev (n + 3) id_udp_Bytes [dgLV fr to su da, .str ps] none = some (.tup [.str (udpB fr to da ps), udpE (udpK fr to da)], none) := by
  rw [Sys.step hS.h_udp_Bytes, F_udp_Bytes_eq]
  unfold F_udp_Bytes
  have b1 : S.ev (n + 2) id_num_Big [.int .i64 fr, .int .i64 2] none = some (bigR fr 2, none) := ev_Big hS (n + 1) fr 2 (by omega) hf
  have b2 : S.ev (n + 2) id_num_Big [.int .i64 to, .int .i64 2] none = some (bigR to 2, none) := ev_Big hS (n + 1) to 2 (by omega) ht
  have b3 : S.ev (n + 2) id_num_Big [.int .i64 ((8 + da.length : Nat) : Int), .int .i64 2] none = some (bigR ((8 + da.length : Nat) : Int) 2, none) := ev_Big hS (n + 1) _ 2 (by omega) ⟨by omega, by omega⟩
  have hfa := ev_fault5 hS (n + 1)
  have e1 : IntKind.i64.wrap (8 + (da.length : Int)) = ((8 + da.length : Nat) : Int) := by rw [wrap_id (by omega) (by omega)]; omega
  have hx := udpN_le fr to da ps
  have b4 : S.ev (n + 2) id_num_Big [.int .i64 (udpN fr to da ps), .int .i64 2] none = some (bigR (udpN fr to da ps) 2, none) := ev_Big hS (n + 1) _ 2 (by omega) ⟨by omega, by omega⟩
  have r4 : bigR (udpN fr to da ps) 2 = .tup [.str (beB 2 (udpN fr to da ps).toNat), .nili] := by unfold bigR; rw [if_pos (by simp; omega)]
  rw [r4] at b4
  have ho := ev_Of hS n [ps, beB 2 fr.toNat, beB 2 to.toNat, beB 2 (8 + da.length), [0, 0], da] (by simp) (by simp [beB_len]; omega)
  simp only [List.map_cons, List.map_nil, List.flatten_cons, List.flatten_nil, List.append_nil] at ho
  have ho : S.ev (n + 2) id_sum_Of [.lst none [.str ps, .str (beB 2 fr.toNat), .str (beB 2 to.toNat), .str (beB 2 (8 + da.length)), .str [0, 0], .str da]] none = some (.int .i64 (udpX fr to da ps), none) := by
    rw [ho]; simp only [udpX, sumS, udpH, List.append_assoc]
  unfold bigR at b1 b2 b3
  (try simp only [guard_merge, or_merge, and_merge, or_pick, and_pick, guard_or, guard_and]); simp only [to_ob]
  unfold udpB udpK
  by_cases c1 : 0 ≤ fr ∧ fr < 65536
  · have c1' : 0 ≤ fr ∧ fr < ((256 ^ 2 : Nat) : Int) := c1
    rw [if_pos c1'] at b1
    by_cases c2 : 0 ≤ to ∧ to < 65536
    · have c2' : 0 ≤ to ∧ to < ((256 ^ 2 : Nat) : Int) := c2
      rw [if_pos c2'] at b2
      by_cases c3 : da.length ≤ 65527
      · have c3' : 0 ≤ ((8 + da.length : Nat) : Int) ∧ ((8 + da.length : Nat) : Int) < ((256 ^ 2 : Nat) : Int) := by simp; omega
        rw [if_pos c3', Int.toNat_natCast] at b3
        have hl1 := beB_len 2 fr.toNat
        have hl2 := beB_len 2 to.toNat
        have hl3 := beB_len 2 (8 + da.length)
        have hl4 := beB_len 2 (udpN fr to da ps).toNat
        have m1 : 4 ≤ maxStr := by decide
        have m2 : 6 ≤ maxStr := by decide
        have m3 : 8 ≤ maxStr := by decide
        have m4 : 8 + da.length ≤ maxStr := by unfold maxStr; omega
        by_cases c4 : udpX fr to da ps = 0
        · have hN : udpN fr to da ps = 65535 := by unfold udpN; rw [if_pos c4]
          rw [hN] at b4 hl4
          simp only [go_sem, ↓reduceIte, reduceCtorEq, upd_ne, back_new (no_at), Nat.reduceAdd, Nat.reduceEqDiff, Nat.reduceMul, Nat.reduceSub, Nat.reduceLeDiff, Nat.reduceLT, Int.reduceToNat, Int.reduceLE, Int.reduceLT, Int.reduceEq, UInt8.reduceOfNat, hl1, hl2, hl3, hl4, m1, m2, m3, m4, List.length_append, b1, b2, b3, b4, ho, e1, c1, c2, c3, c4, udpE, udpW, udpH, hN, List.append_assoc]
          have hl5 := beB_len 2 65535
          rw [if_pos (by unfold maxStr; omega), if_pos (by unfold maxStr; omega)]
        · have hN : udpN fr to da ps = udpX fr to da ps := by unfold udpN; rw [if_neg c4]
          rw [hN] at b4 hl4
          simp only [go_sem, ↓reduceIte, reduceCtorEq, upd_ne, back_new (no_at), Nat.reduceAdd, Nat.reduceEqDiff, Nat.reduceMul, Nat.reduceSub, Nat.reduceLeDiff, Nat.reduceLT, Int.reduceToNat, Int.reduceLE, Int.reduceLT, Int.reduceEq, UInt8.reduceOfNat, hl1, hl2, hl3, hl4, m1, m2, m3, m4, List.length_append, b1, b2, b3, b4, ho, e1, c1, c2, c3, c4, udpE, udpW, udpH, hN, List.append_assoc]
      · have c3' : ¬ (0 ≤ ((8 + da.length : Nat) : Int) ∧ ((8 + da.length : Nat) : Int) < ((256 ^ 2 : Nat) : Int)) := by simp; omega
        rw [if_neg c3'] at b3
        simp only [go_sem, ↓reduceIte, reduceCtorEq, upd_ne, back_new (no_at), Nat.reduceAdd, Nat.reduceEqDiff, Nat.reduceMul, Nat.reduceSub, Nat.reduceLeDiff, Nat.reduceLT, Int.reduceToNat, Int.reduceLE, Int.reduceLT, Int.reduceEq, UInt8.reduceOfNat, b1, b2, b3, hfa, e1, c1, c2, c3, udpE]
    · have c2' : ¬ (0 ≤ to ∧ to < ((256 ^ 2 : Nat) : Int)) := c2
      rw [if_neg c2'] at b2
      simp only [go_sem, ↓reduceIte, reduceCtorEq, upd_ne, back_new (no_at), Nat.reduceAdd, Nat.reduceEqDiff, Nat.reduceMul, Nat.reduceSub, Nat.reduceLeDiff, Nat.reduceLT, Int.reduceToNat, Int.reduceLE, Int.reduceLT, Int.reduceEq, UInt8.reduceOfNat, b1, b2, c1, c2, udpE]
  · have c1' : ¬ (0 ≤ fr ∧ fr < ((256 ^ 2 : Nat) : Int)) := c1
    rw [if_neg c1'] at b1
    simp only [go_sem, ↓reduceIte, reduceCtorEq, upd_ne, back_new (no_at), Nat.reduceAdd, Nat.reduceEqDiff, Nat.reduceMul, Nat.reduceSub, Nat.reduceLeDiff, Nat.reduceLT, Int.reduceToNat, Int.reduceLE, Int.reduceLT, Int.reduceEq, UInt8.reduceOfNat, b1, c1, udpE]
end
end Go.Ev

/- Layer 5: the statements. -/
namespace Go.Ev
set_option linter.unusedSimpArgs false
set_option linter.unusedVariables false
set_option maxRecDepth 4000
set_option maxHeartbeats 2000000

theorem beB2 (x : Nat) : beB 2 x = [UInt8.ofNat (x / 256), UInt8.ofNat x] := by simp [beB, List.range_succ]
theorem u8_ofNat_mod (x : Nat) : UInt8.ofNat (x % 256) = UInt8.ofNat x := by apply UInt8.toNat_inj.1; simp

structure FitDg (fr to su : Int) (da : List UInt8) : Prop where
  hfr : I64 fr
  hto : I64 to
  hsu : I64 su
  hda : da.length ≤ 140737488351232
theorem fit_dg {v : LV} (h : fitV (.agg [.int .i64, .int .i64, .int .i64, .str]) v) : ∃ fr to su da, v = dgLV fr to su da ∧ FitDg fr to su da := by
  obtain ⟨vs, rfl, q0⟩ := fit_agg' h; clear h
  obtain ⟨a, r, e, g1, q1⟩ := fit_cons q0; clear q0; subst e; obtain ⟨fr, rfl, h1⟩ := fit_i64 g1; clear g1
  obtain ⟨a, r, e, g2, q2⟩ := fit_cons q1; clear q1; subst e; obtain ⟨to, rfl, h2⟩ := fit_i64 g2; clear g2
  obtain ⟨a, r, e, g3, q3⟩ := fit_cons q2; clear q2; subst e; obtain ⟨su, rfl, h3⟩ := fit_i64 g3; clear g3
  obtain ⟨a, r, e, g4, q4⟩ := fit_cons q3; clear q3; subst e; obtain ⟨da, rfl, h4⟩ := fit_str g4; clear g4
  obtain rfl := fit_nil q4
  exact ⟨fr, to, su, da, rfl, h1, h2, h3, h4⟩

section
variable {S : Sys} (hS : Has S) (n : Nat)
include hS

theorem ev_same5 (c d : Int) : S.ev (n + 1) id_interpreterlaw05_same [udpE c, .int .i64 d] none = some (.bool (decide (c = d)), none) := by
  rw [Sys.step hS.h_interpreterlaw05_same, F_interpreterlaw05_same_eq]
  unfold F_interpreterlaw05_same udpE
  (try simp only [guard_merge, or_merge, and_merge, or_pick, and_pick, guard_or, guard_and]); simp only [to_ob]
  by_cases hc : c = 0
  · by_cases hd : d = 0
    · simp only [go_sem, ↓reduceIte, reduceCtorEq, upd_ne, back_new (no_at), Nat.reduceAdd, Nat.reduceEqDiff, Nat.reduceMul, Nat.reduceSub, Nat.reduceLeDiff, Nat.reduceLT, Int.reduceToNat, Int.reduceLE, Int.reduceLT, Int.reduceEq, UInt8.reduceOfNat, hc, hd]
    · have : ¬ (0 : Int) = d := fun e => hd e.symm
      simp only [go_sem, ↓reduceIte, reduceCtorEq, upd_ne, back_new (no_at), Nat.reduceAdd, Nat.reduceEqDiff, Nat.reduceMul, Nat.reduceSub, Nat.reduceLeDiff, Nat.reduceLT, Int.reduceToNat, Int.reduceLE, Int.reduceLT, Int.reduceEq, UInt8.reduceOfNat, hc, hd, this]
  · by_cases hd : d = 0
    · have : ¬ c = d := fun e => hc (e.trans hd)
      simp only [go_sem, ↓reduceIte, reduceCtorEq, upd_ne, back_new (no_at), Nat.reduceAdd, Nat.reduceEqDiff, Nat.reduceMul, Nat.reduceSub, Nat.reduceLeDiff, Nat.reduceLT, Int.reduceToNat, Int.reduceLE, Int.reduceLT, Int.reduceEq, UInt8.reduceOfNat, hc, hd, this]
    · simp only [go_sem, ↓reduceIte, reduceCtorEq, upd_ne, back_new (no_at), Nat.reduceAdd, Nat.reduceEqDiff, Nat.reduceMul, Nat.reduceSub, Nat.reduceLeDiff, Nat.reduceLT, Int.reduceToNat, Int.reduceLE, Int.reduceLT, Int.reduceEq, UInt8.reduceOfNat, hc, hd]

theorem ev_rtwo5 (x : Nat) (hx : x ≤ 65535) : S.ev (n + 1) id_interpreterref05_two [.int .i64 (x : Int)] none = some (.str (beB 2 x), none) := by
  rw [Sys.step hS.h_interpreterref05_two, F_interpreterref05_two_eq]
  unfold F_interpreterref05_two
  have e1 : IntKind.i64.wrap (Int.tdiv (x : Int) 256) = ((x / 256 : Nat) : Int) := by
    rw [show Int.tdiv (x : Int) 256 = ((x / 256 : Nat) : Int) from rfl, wrap_id (by omega) (by omega)]
  have e2 : Int.tmod (x : Int) 256 = ((x % 256 : Nat) : Int) := rfl
  have e3 : x % 256 % 256 = x % 256 := by omega
  simp only [to_ob]
  simp only [go_sem, ↓reduceIte, reduceCtorEq, upd_ne, back_new (no_at), Nat.reduceAdd, Nat.reduceEqDiff, Nat.reduceMul, Nat.reduceSub, Nat.reduceLeDiff, Nat.reduceLT, Int.reduceToNat, Int.reduceLE, Int.reduceLT, Int.reduceEq, UInt8.reduceOfNat, e1, e2, u8_wrap, beB2, u8_ofNat_mod, e3, Int.toNat_natCast]

theorem ev_rbytes5 (fr to su : Int) (da ps : List UInt8) (hf : I64 fr) (ht : I64 to) (hd : da.length ≤ 400000) (hp : ps.length ≤ 400000) :
    S.ev (n + 3) id_interpreterref05_Bytes [dgLV fr to su da, .str ps] none = some (.tup [.str (udpB fr to da ps), .int .i64 (udpK fr to da)], none) := by
  rw [Sys.step hS.h_interpreterref05_Bytes, F_interpreterref05_Bytes_eq]
  unfold F_interpreterref05_Bytes
  (try simp only [guard_merge, or_merge, and_merge, or_pick, and_pick, guard_or, guard_and]); simp only [to_ob]
  unfold udpB udpK
  by_cases c1 : (0 ≤ fr ∧ fr < 65536) ∧ 0 ≤ to ∧ to < 65536
  · have c1' : ¬ (((fr < 0 ∨ 65535 < fr) ∨ to < 0) ∨ 65535 < to) := by omega
    by_cases c3 : da.length ≤ 65527
    · have c3' : ¬ 65527 < (da.length : Int) := by omega
      obtain ⟨⟨c11, c12⟩, c13, c14⟩ := c1
      obtain ⟨x, rfl⟩ := Int.eq_ofNat_of_zero_le c11
      obtain ⟨y, rfl⟩ := Int.eq_ofNat_of_zero_le c13
      have t1 := ev_rtwo5 hS (n + 1) x (by omega)
      have t2 := ev_rtwo5 hS (n + 1) y (by omega)
      have t3 := ev_rtwo5 hS (n + 1) (8 + da.length) (by omega)
      have t0 : S.ev (n + 2) id_interpreterref05_two [.int .i64 0] none = some (.str [0, 0], none) := ev_rtwo5 hS (n + 1) 0 (by omega)
      have hN := udpN_le (x : Int) (y : Int) da ps
      have t4 := ev_rtwo5 hS (n + 1) (udpN (x : Int) (y : Int) da ps).toNat (by omega)
      rw [Int.toNat_of_nonneg (by omega)] at t4
      have e1 : IntKind.i64.wrap (8 + (da.length : Int)) = ((8 + da.length : Nat) : Int) := by rw [wrap_id (by omega) (by omega)]; omega
      have hl1 := beB_len 2 x
      have hl2 := beB_len 2 y
      have hl3 := beB_len 2 (8 + da.length)
      have hl4 := beB_len 2 (udpN (x : Int) (y : Int) da ps).toNat
      have ho := ev_rOf hS n (ps ++ (udpH (x : Int) (y : Int) da ++ ([0, 0] ++ da))) (by simp [udpH, beB_len]; omega)
      have ho : S.ev (n + 2) id_interpreterref02_Of [.str (ps ++ (beB 2 x ++ (beB 2 y ++ (beB 2 (8 + da.length) ++ 0 :: 0 :: da))))] none = some (.int .i64 (udpX (x : Int) (y : Int) da ps), none) := by
        have h2 := ho
        simp only [udpH, Int.toNat_natCast, List.append_assoc, List.cons_append, List.nil_append] at h2
        rw [h2]
        simp only [udpX, sumS, udpH, Int.toNat_natCast, List.append_assoc, List.cons_append, List.nil_append]
      have m1 : 4 ≤ maxStr := by decide
      have m2 : 6 ≤ maxStr := by decide
      have m3 : 8 ≤ maxStr := by decide
      have m4 : 8 + da.length ≤ maxStr := by unfold maxStr; omega
      have m5 : ps.length + 6 ≤ maxStr := by unfold maxStr; omega
      have m6 : ps.length + 8 ≤ maxStr := by unfold maxStr; omega
      have m7 : ps.length + 8 + da.length ≤ maxStr := by unfold maxStr; omega
      by_cases c4 : udpX (x : Int) (y : Int) da ps = 0
      · have hN : udpN (x : Int) (y : Int) da ps = 65535 := by unfold udpN; rw [if_pos c4]
        rw [hN] at t4
        simp only [go_sem, ↓reduceIte, reduceCtorEq, upd_ne, back_new (no_at), Nat.reduceAdd, Nat.reduceEqDiff, Nat.reduceMul, Nat.reduceSub, Nat.reduceLeDiff, Nat.reduceLT, Int.reduceToNat, Int.reduceLE, Int.reduceLT, Int.reduceEq, UInt8.reduceOfNat, hl1, hl2, hl3, hl4, m1, m2, m3, m4, m5, m6, m7, List.length_append, c1', c3, c3', c11, c12, c13, c14, e1, t0, t1, t2, t3, t4, ho, c4, udpW, udpH, hN, List.append_assoc]
        have hl5 := beB_len 2 65535
        rw [if_pos (by unfold maxStr; omega), if_pos (by unfold maxStr; omega)]
      · have hN : udpN (x : Int) (y : Int) da ps = udpX (x : Int) (y : Int) da ps := by unfold udpN; rw [if_neg c4]
        rw [hN] at t4
        simp only [go_sem, ↓reduceIte, reduceCtorEq, upd_ne, back_new (no_at), Nat.reduceAdd, Nat.reduceEqDiff, Nat.reduceMul, Nat.reduceSub, Nat.reduceLeDiff, Nat.reduceLT, Int.reduceToNat, Int.reduceLE, Int.reduceLT, Int.reduceEq, UInt8.reduceOfNat, hl1, hl2, hl3, hl4, m1, m2, m3, m4, m5, m6, m7, List.length_append, c1', c3, c3', c11, c12, c13, c14, e1, t0, t1, t2, t3, t4, ho, c4, udpW, udpH, hN, List.append_assoc]
        have hl5 := beB_len 2 (udpX (x : Int) (y : Int) da ps).toNat
        rw [if_pos (by unfold maxStr; omega), if_pos (by unfold maxStr; omega)]
    · have c3' : 65527 < (da.length : Int) := by omega
      simp only [go_sem, ↓reduceIte, reduceCtorEq, upd_ne, back_new (no_at), Nat.reduceAdd, Nat.reduceEqDiff, Nat.reduceMul, Nat.reduceSub, Nat.reduceLeDiff, Nat.reduceLT, Int.reduceToNat, Int.reduceLE, Int.reduceLT, Int.reduceEq, UInt8.reduceOfNat, c1, c1', c3, c3']
  · have c1' : (((fr < 0 ∨ 65535 < fr) ∨ to < 0) ∨ 65535 < to) := by omega
    simp only [go_sem, ↓reduceIte, reduceCtorEq, upd_ne, back_new (no_at), Nat.reduceAdd, Nat.reduceEqDiff, Nat.reduceMul, Nat.reduceSub, Nat.reduceLeDiff, Nat.reduceLT, Int.reduceToNat, Int.reduceLE, Int.reduceLT, Int.reduceEq, UInt8.reduceOfNat, c1, c1']

theorem ev_awake5 : S.ev (n + 4) id_interpreterlaw05_awake [] none = some (.bool true, none) := by
  rw [Sys.step hS.h_interpreterlaw05_awake, F_interpreterlaw05_awake_eq]
  unfold F_interpreterlaw05_awake
  have h1 := ev_bytes5 hS n 1 2 0 [104, 105] [] ⟨by omega, by omega⟩ ⟨by omega, by omega⟩ (by simp) (by simp)
  have hb : udpB 1 2 [104, 105] [] = [0, 1, 0, 2, 0, 10, 151, 137, 104, 105] := by decide
  have hk : udpK 1 2 [104, 105] = 0 := by decide
  rw [hb, hk] at h1
  have h2 := ev_parse5 hS (n + 1) [0, 1, 0, 2, 0, 10, 151, 137, 104, 105] (by simp)
  have hp : udpP [0, 1, 0, 2, 0, 10, 151, 137, 104, 105] = (0, 1, 2, 38793, [104, 105]) := by decide
  rw [hp] at h2
  simp only [udpE, if_true, dgLV] at h1 h2
  (try simp only [guard_merge, or_merge, and_merge, or_pick, and_pick, guard_or, guard_and]); simp only [to_ob]
  simp only [go_sem, ↓reduceIte, reduceCtorEq, upd_ne, back_new (no_at), Nat.reduceAdd, Nat.reduceEqDiff, Nat.reduceMul, Nat.reduceSub, Nat.reduceLeDiff, Nat.reduceLT, Int.reduceToNat, Int.reduceLE, Int.reduceLT, Int.reduceEq, UInt8.reduceOfNat, h1, h2]
  rfl

theorem ev_UdpReads {vs : List LV} (h : fitVL [.str, .str] vs) : S.ev (n + 5) id_interpreterlaw05_UdpReads vs none = some (.bool true, none) := by
  obtain ⟨a, r, e, g1, q1⟩ := fit_cons h; clear h; subst e; obtain ⟨s, rfl, hs⟩ := fit_str g1; clear g1
  obtain ⟨a, r, e, g2, q2⟩ := fit_cons q1; clear q1; subst e; obtain ⟨ps, rfl, hp⟩ := fit_str g2; clear g2
  obtain rfl := fit_nil q2
  rw [Sys.step hS.h_interpreterlaw05_UdpReads, F_interpreterlaw05_UdpReads_eq]
  unfold F_interpreterlaw05_UdpReads
  have ha := ev_awake5 hS n
  have h1 := ev_parse5 hS (n + 2) s hs
  have h2 := ev_rparse5 hS (n + 2) s hs
  have hsm := ev_same5 hS (n + 3)
  (try simp only [guard_merge, or_merge, and_merge, or_pick, and_pick, guard_or, guard_and]); simp only [to_ob]
  by_cases c : 70000 < (s.length : Int) ∨ 1000 < (ps.length : Int)
  · simp only [go_sem, ↓reduceIte, reduceCtorEq, upd_ne, back_new (no_at), Nat.reduceAdd, Nat.reduceEqDiff, Nat.reduceMul, Nat.reduceSub, Nat.reduceLeDiff, Nat.reduceLT, Int.reduceToNat, Int.reduceLE, Int.reduceLT, Int.reduceEq, UInt8.reduceOfNat, ha, c]
  · have h3 := ev_check5 hS n s ps (by omega) (by omega)
    have h4 := ev_rcheck5 hS (n + 1) s ps (by omega) (by omega)
    simp only [go_sem, ↓reduceIte, reduceCtorEq, upd_ne, back_new (no_at), Nat.reduceAdd, Nat.reduceEqDiff, Nat.reduceMul, Nat.reduceSub, Nat.reduceLeDiff, Nat.reduceLT, Int.reduceToNat, Int.reduceLE, Int.reduceLT, Int.reduceEq, UInt8.reduceOfNat, ha, c, h1, h2, h3, h4, hsm, l_call]

theorem ev_UdpWrites {vs : List LV} (h : fitVL [.agg [.int .i64, .int .i64, .int .i64, .str], .str] vs) : S.ev (n + 5) id_interpreterlaw05_UdpWrites vs none = some (.bool true, none) := by
  obtain ⟨a, r, e, g1, q1⟩ := fit_cons h; clear h; subst e; obtain ⟨fr, to, su, da, rfl, hd⟩ := fit_dg g1; clear g1
  obtain ⟨a, r, e, g2, q2⟩ := fit_cons q1; clear q1; subst e; obtain ⟨ps, rfl, hp⟩ := fit_str g2; clear g2
  obtain rfl := fit_nil q2
  rw [Sys.step hS.h_interpreterlaw05_UdpWrites, F_interpreterlaw05_UdpWrites_eq]
  unfold F_interpreterlaw05_UdpWrites
  have ha := ev_awake5 hS n
  have hsm := ev_same5 hS (n + 3)
  (try simp only [guard_merge, or_merge, and_merge, or_pick, and_pick, guard_or, guard_and]); simp only [to_ob]
  by_cases c : 70000 < (da.length : Int) ∨ 1000 < (ps.length : Int)
  · simp only [go_sem, ↓reduceIte, reduceCtorEq, upd_ne, back_new (no_at), Nat.reduceAdd, Nat.reduceEqDiff, Nat.reduceMul, Nat.reduceSub, Nat.reduceLeDiff, Nat.reduceLT, Int.reduceToNat, Int.reduceLE, Int.reduceLT, Int.reduceEq, UInt8.reduceOfNat, ha, c]
  · have h1 := ev_bytes5 hS (n + 1) fr to su da ps hd.hfr hd.hto (by omega) (by omega)
    have h2 := ev_rbytes5 hS (n + 1) fr to su da ps hd.hfr hd.hto (by omega) (by omega)
    simp only [go_sem, ↓reduceIte, reduceCtorEq, upd_ne, back_new (no_at), Nat.reduceAdd, Nat.reduceEqDiff, Nat.reduceMul, Nat.reduceSub, Nat.reduceLeDiff, Nat.reduceLT, Int.reduceToNat, Int.reduceLE, Int.reduceLT, Int.reduceEq, UInt8.reduceOfNat, ha, c, h1, h2, hsm, l_call]
end
end Go.Ev

/- Layer 5: there and back. -/
namespace Go.Ev
set_option linter.unusedSimpArgs false
set_option linter.unusedVariables false
set_option maxRecDepth 4000
set_option maxHeartbeats 2000000

theorem w16_beB {x : Nat} (h : x < 65536) : w16 (UInt8.ofNat (x / 256)) (UInt8.ofNat x) = x := by
  simp only [w16, UInt8.toNat_ofNat']; omega
theorem flip_tab : ∀ c : Fin 256, ∀ j : Fin 8, c.val ^^^ 2 ^ j.val = c.val + 2 ^ j.val ∨ (c.val ^^^ 2 ^ j.val) + 2 ^ j.val = c.val := by
  decide +kernel
theorem flip_nat {c j : Nat} (hc : c < 256) (hj : j < 8) : c ^^^ 2 ^ j = c + 2 ^ j ∨ (c ^^^ 2 ^ j) + 2 ^ j = c := flip_tab ⟨c, hc⟩ ⟨j, hj⟩

theorem ones_full {n : Nat} : ones n = 65535 ↔ 0 < n ∧ n % 65535 = 0 := by unfold ones; split <;> omega
/-- With its sum written in, a text is right. -/
theorem right_of {t x : Nat} (hx : x = if 65535 - ones t = 0 then 65535 else 65535 - ones t) : ones (t + x) = 65535 := by
  have h1 := ones_le t
  rw [← ones_add, ones_full]
  split at hx <;> omega
theorem right_of0 {t : Nat} : ones (t + (65535 - ones t)) = 65535 ∨ t = 0 ∧ False := by
  left
  have h1 := ones_le t
  rw [← ones_add, ones_full]
  omega

theorem sumAt_set : ∀ (s : List UInt8) (p k : Nat) (c d : UInt8), s[k]? = some c → sumAt p (s.set k d) + (if (p + k) % 2 = 0 then c.toNat * 256 else c.toNat) = sumAt p s + (if (p + k) % 2 = 0 then d.toNat * 256 else d.toNat)
  | [], p, k, c, d, h => by simp at h
  | a :: s, p, 0, c, d, h => by
    simp at h; subst h
    simp only [List.set_cons_zero, sumAt, Nat.add_zero]
    omega
  | a :: s, p, k + 1, c, d, h => by
    have := sumAt_set s (p + 1) k c d (by simpa using h)
    simp only [List.set_cons_succ, sumAt]
    rw [show p + 1 + k = p + (k + 1) by omega] at this
    omega
theorem pow_not {j m : Nat} (hj : j < 8) (hm : m = 2 ^ j * 256 ∨ m = 2 ^ j) : 0 < m ∧ m < 65535 := by
  have h1 : 0 < 2 ^ j := Nat.two_pow_pos j
  have h2 : 2 ^ j ≤ 2 ^ 7 := Nat.pow_le_pow_right (by decide) (by omega)
  have h3 : (2 : Nat) ^ 7 = 128 := by decide
  omega
/-- A bit that is turned is told by the sum. -/
theorem flip_told {s : List UInt8} {p k j : Nat} {c d : UInt8} (hk : s[k]? = some c) (hj : j < 8) (hd : d.toNat = c.toNat ^^^ 2 ^ j) (ho : ones (sumAt p s) = 65535) : ones (sumAt p (s.set k d)) ≠ 65535 := by
  have h1 := sumAt_set s p k c d hk
  have h2 := flip_nat c.toNat_lt hj
  rw [← hd] at h2
  have ho := ones_full.1 ho
  intro h
  have h := ones_full.1 h
  have h3 : 0 < 2 ^ j := Nat.two_pow_pos j
  have h4 : 2 ^ j ≤ 2 ^ 7 := Nat.pow_le_pow_right (by decide) (by omega)
  have h5 : (2 : Nat) ^ 7 = 128 := by decide
  generalize 2 ^ j = m at *
  split at h1 <;> omega

theorem udpP_W {fr to : Nat} {da ps : List UInt8} (h1 : fr < 65536) (h2 : to < 65536) (h3 : da.length ≤ 65527) : udpP (udpW fr to da ps) = (0, fr, to, (udpN fr to da ps).toNat, da) := by
  have hn := udpN_le fr to da ps
  unfold udpW udpH
  simp only [beB2, Int.toNat_natCast, List.cons_append, List.nil_append, udpP]
  rw [w16_beB (by omega), w16_beB h1, w16_beB h2, w16_beB (by omega), if_neg (by omega)]
theorem udpW_len (fr to : Nat) (da ps : List UInt8) : (udpW fr to da ps).length = 8 + da.length := by
  unfold udpW udpH; simp [beB_len]; omega
/-- What is written is right. -/
theorem udpW_right {fr to : Nat} {da ps : List UInt8} (hp : ps.length % 2 = 0) : ones (sumAt 0 (ps ++ udpW fr to da ps)) = 65535 := by
  have hn := udpN_le fr to da ps
  have hb : ∀ x : Nat, x < 65536 → (UInt8.ofNat (x / 256)).toNat * 256 + (UInt8.ofNat x).toNat = x := fun x hx => by
    have := w16_beB hx; unfold w16 at this; omega
  have hl : (udpH fr to da).length = 6 := by unfold udpH; simp [beB_len]
  have key : sumAt 0 (ps ++ udpW fr to da ps) = sumAt 0 (ps ++ (udpH fr to da ++ ([0, 0] ++ da))) + (udpN fr to da ps).toNat := by
    unfold udpW
    have hb := hb (udpN fr to da ps).toNat (by omega)
    simp only [beB2, sumAt_append, List.cons_append, List.nil_append, sumAt, hl]
    simp only [show (0 + ps.length + 6) % 2 = 0 by omega, show ¬ (0 + ps.length + 6 + 1) % 2 = 0 by omega, if_true, if_false]
    simp only [UInt8.toNat_zero]
    omega
  rw [key]
  refine right_of ?_
  unfold udpN udpX sumS
  have := ones_le (sumAt 0 (ps ++ (udpH fr to da ++ ([0, 0] ++ da))))
  split <;> split <;> omega
theorem udpC_zero {s ps : List UInt8} : udpC s ps = 0 ↔ (udpP s).1 = 0 ∧ (udpP s).2.2.2.1 ≠ 0 ∧ sumS (ps ++ s) = 0 := by
  unfold udpC
  by_cases h1 : (udpP s).1 = 0 <;> by_cases h2 : (udpP s).2.2.2.1 = 0 <;> by_cases h3 : sumS (ps ++ s) = 0 <;> simp [h1, h2, h3]
theorem udpE_zero {c : Int} : udpE c = .nili ↔ c = 0 := by unfold udpE; split <;> simp [*]
theorem sumS_zero {s : List UInt8} : sumS s = 0 ↔ ones (sumAt 0 s) = 65535 := by unfold sumS; omega

section
variable {S : Sys} (hS : Has S) (n : Nat)
include hS
theorem ev_UdpBack {vs : List LV} (h : fitVL [.agg [.int .i64, .int .i64, .int .i64, .str], .str, .int .u16, .int .u8] vs) : S.ev (n + 5) id_interpreterlaw05_UdpBack vs none = some (.bool true, none) := by
  obtain ⟨a, r, e, g1, q1⟩ := fit_cons h; clear h; subst e; obtain ⟨fr, to, su, da, rfl, hd⟩ := fit_dg g1; clear g1
  obtain ⟨a, r, e, g2, q2⟩ := fit_cons q1; clear q1; subst e; obtain ⟨ps0, rfl, hp⟩ := fit_str g2; clear g2
  obtain ⟨a, r, e, g3, q3⟩ := fit_cons q2; clear q2; subst e; obtain ⟨kat, rfl, hk0, hk1⟩ := fit_u16 g3; clear g3
  obtain ⟨a, r, e, g4, q4⟩ := fit_cons q3; clear q3; subst e; obtain ⟨bit, rfl, hb0, hb1⟩ := fit_u8 g4; clear g4
  obtain rfl := fit_nil q4
  rw [Sys.step hS.h_interpreterlaw05_UdpBack, F_interpreterlaw05_UdpBack_eq]
  unfold F_interpreterlaw05_UdpBack
  have ha := ev_awake5 hS n
  (try simp only [guard_merge, or_merge, and_merge, or_pick, and_pick, guard_or, guard_and]); simp only [to_ob]
  by_cases c : 70000 < (da.length : Int) ∨ 1000 < (ps0.length : Int)
  · simp only [go_sem, ↓reduceIte, reduceCtorEq, upd_ne, back_new (no_at), Nat.reduceAdd, Nat.reduceEqDiff, Nat.reduceMul, Nat.reduceSub, Nat.reduceLeDiff, Nat.reduceLT, Int.reduceToNat, Int.reduceLE, Int.reduceLT, Int.reduceEq, UInt8.reduceOfNat, ha, c]
  · have e1 : IntKind.i64.wrap (IntKind.i64.wrap (Int.tdiv (ps0.length : Int) 2) * 2) = ((ps0.length / 2 * 2 : Nat) : Int) := by
      rw [show Int.tdiv (ps0.length : Int) 2 = ((ps0.length / 2 : Nat) : Int) from rfl, wrap_id (n := ((ps0.length / 2 : Nat) : Int)) (by omega) (by omega), wrap_id (by omega) (by omega)]; omega
    have e2 : ps0.length / 2 * 2 ≤ ps0.length := by omega
    generalize hps : ps0.take (ps0.length / 2 * 2) = ps
    have hpl : ps.length = ps0.length / 2 * 2 := by rw [← hps, List.length_take]; omega
    have h1 := ev_bytes5 hS (n + 1) fr to su da ps hd.hfr hd.hto (by omega) (by omega)
    obtain ⟨at', rfl⟩ := Int.eq_ofNat_of_zero_le hk0
    obtain ⟨bt, rfl⟩ := Int.eq_ofNat_of_zero_le hb0
    by_cases ck : udpK fr to da = 0
    · have hk := ck
      unfold udpK at hk
      split at hk
      case isFalse => simp at hk
      rename_i hr
      split at hk
      case isFalse => simp at hk
      rename_i hl
      obtain ⟨⟨r1, r2⟩, r3, r4⟩ := hr
      obtain ⟨x, rfl⟩ := Int.eq_ofNat_of_zero_le r1
      obtain ⟨y, rfl⟩ := Int.eq_ofNat_of_zero_le r3
      simp only [udpB, ck, if_true, udpE] at h1
      have h2 := ev_parse5 hS (n + 2) (udpW x y da ps) (by rw [udpW_len]; omega)
      rw [udpP_W (by omega) (by omega) hl] at h2
      have hN := udpN_le x y da ps
      rw [Int.toNat_of_nonneg (by omega)] at h2
      simp only [udpE, if_true] at h2
      have hN0 : ¬ udpN x y da ps = 0 := by omega
      have hright : ones (sumAt 0 (ps ++ udpW x y da ps)) = 65535 := udpW_right (by omega)
      have h3 := ev_check5 hS n (udpW x y da ps) ps (by rw [udpW_len]; omega) (by omega)
      have hc0 : udpC (udpW x y da ps) ps = 0 := by
        rw [udpC_zero, udpP_W (by omega) (by omega) hl]
        exact ⟨rfl, by simp only; omega, sumS_zero.2 hright⟩
      rw [hc0] at h3
      simp only [udpE, if_true] at h3
      have hlen := udpW_len x y da ps
      generalize udpW x y da ps = W at *
      have m1 : W.length ≤ 1099511627776 := by omega
      have m2 : ¬ (W.length : Int) = 0 := by omega
      have e3 : IntKind.i64.wrap (at' : Int) = (at' : Int) := wrap_id (by omega) (by omega)
      have e4 : Int.tmod (at' : Int) (W.length : Int) = ((at' % W.length : Nat) : Int) := rfl
      have hk : at' % W.length < W.length := Nat.mod_lt _ (by omega)
      generalize at' % W.length = k at *
      have hg : W[k]? = some W[k] := List.getElem?_eq_getElem hk
      generalize W[k] = cb at *
      have hcb := cb.toNat_lt
      have e5 : Int.tmod (bt : Int) 8 = ((bt % 8 : Nat) : Int) := rfl
      have hj : bt % 8 < 8 := by omega
      generalize bt % 8 = j at *
      have e6 : min j 8 = j := by omega
      have e8 : (2 : Nat) ^ j ≤ 2 ^ 7 := Nat.pow_le_pow_right (by decide) (by omega)
      have e9 : (2 : Nat) ^ 7 = 128 := by decide
      have e7 : IntKind.u8.wrap (1 * 2 ^ j) = ((2 ^ j : Nat) : Int) := by
        rw [Int.one_mul, show (2 : Int) ^ j = ((2 ^ j : Nat) : Int) by simp]
        rw [u8_wrap, Nat.mod_eq_of_lt (by omega)]
      have e10 : bitsOf .xor .u8 (cb.toNat : Int) ((2 ^ j : Nat) : Int) = ((cb.toNat ^^^ 2 ^ j : Nat) : Int) := by
        rw [bits_xor_nat (show (cb.toNat : Int) ≤ 255 by omega) (show ((2 ^ j : Nat) : Int) ≤ ((255 : Nat) : Int) from Int.ofNat_le.2 (by omega))]
      have e12 : ((cb.toNat ^^^ 2 ^ j : Nat) : Int) < 256 := by
        have := Nat.xor_lt_two_pow (n := 8) hcb (show 2 ^ j < 2 ^ 8 by omega)
        omega
      have e13 : (W.set k (UInt8.ofNat (cb.toNat ^^^ 2 ^ j))).take W.length = W.set k (UInt8.ofNat (cb.toNat ^^^ 2 ^ j)) := List.take_of_length_le (by simp)
      have e11 : ¬ ((j : Nat) : Int) < 0 := by omega
      have hd : (UInt8.ofNat (cb.toNat ^^^ 2 ^ j)).toNat = cb.toNat ^^^ 2 ^ j := by
        rw [UInt8.toNat_ofNat']
        exact Nat.mod_eq_of_lt (Nat.xor_lt_two_pow (n := 8) hcb (by omega))
      have h4 := ev_check5 hS n (W.set k (UInt8.ofNat (cb.toNat ^^^ 2 ^ j))) ps (by simp; omega) (by omega)
      have hbad : ¬ udpC (W.set k (UInt8.ofNat (cb.toNat ^^^ 2 ^ j))) ps = 0 := by
        rw [udpC_zero]
        rintro ⟨_, _, h⟩
        rw [sumS_zero] at h
        have hw := flip_told (s := ps ++ W) (p := 0) (k := ps.length + k) (by rw [List.getElem?_append_right (by omega)]; simpa using hg) hj hd hright
        rw [List.set_append_right _ _ (by omega), Nat.add_sub_cancel_left] at hw
        exact hw h
      simp only [udpE, hbad, if_false] at h4
      simp only [go_sem, ↓reduceIte, reduceCtorEq, upd_ne, back_new (no_at), Nat.reduceAdd, Nat.reduceEqDiff, Nat.reduceMul, Nat.reduceSub, Nat.reduceLeDiff, Nat.reduceLT, Int.reduceToNat, Int.reduceLE, Int.reduceLT, Int.reduceEq, UInt8.reduceOfNat, Nat.sub_zero, ha, c, e1, e2, hps, h1, h2, h3, hN0, m1, m2, e3, e4, e5, e6, e7, e10, e11, hk, hg, byteLV, h4, Nat.le_refl, e12, e13]
    · have h1' : udpB fr to da ps = [] := by unfold udpB; rw [if_neg ck]
      simp only [h1', udpE, ck, if_false] at h1
      simp only [go_sem, ↓reduceIte, reduceCtorEq, upd_ne, back_new (no_at), Nat.reduceAdd, Nat.reduceEqDiff, Nat.reduceMul, Nat.reduceSub, Nat.reduceLeDiff, Nat.reduceLT, Int.reduceToNat, Int.reduceLE, Int.reduceLT, Int.reduceEq, UInt8.reduceOfNat, Nat.sub_zero, ha, c, e1, e2, hps, h1]
end
end Go.Ev

/- Layer 6: segments. -/
namespace Go.Ev
set_option linter.unusedSimpArgs false
set_option linter.unusedVariables false
set_option maxRecDepth 4000
set_option maxHeartbeats 2000000

theorem get_def {s : List UInt8} {i : Nat} (h : i < s.length) : s[i]? = some (s.getD i 0) := by
  rw [List.getD_eq_getElem?_getD, List.getElem?_eq_getElem h]; rfl
/-- What bytes are parsed as. -/
def tcpH (s : List UInt8) : Nat := (s.getD 12 0).toNat / 16 * 4
def tcpK (s : List UInt8) : Int := if s.length < 20 then 7 else if tcpH s < 20 then 8 else if s.length < tcpH s then 7 else 0
def tcpLV (s : List UInt8) : LV := if tcpK s = 0 then dgLV (w16 (s.getD 0 0) (s.getD 1 0) : Nat) (w16 (s.getD 2 0) (s.getD 3 0) : Nat) (((s.getD 13 0).toNat % 64 : Nat) : Int) s else dgLV 0 0 0 []
theorem tcpLV_0 {s : List UInt8} (h : tcpK s = 0) : tcpLV s = dgLV (w16 (s.getD 0 0) (s.getD 1 0) : Nat) (w16 (s.getD 2 0) (s.getD 3 0) : Nat) (((s.getD 13 0).toNat % 64 : Nat) : Int) s := by unfold tcpLV; rw [if_pos h]
theorem tcpK_len {s : List UInt8} (h : tcpK s = 0) : 20 ≤ s.length := by
  unfold tcpK at h
  by_cases c : s.length < 20
  · simp [c] at h
  · omega

section
variable {S : Sys} (hS : Has S) (n : Nat)
include hS

theorem ev_fault6 (c : Int) : S.ev (n + 1) id_tcp_fault [.int .i64 c] none = some (faultLV c, none) := by
  rw [Sys.step hS.h_tcp_fault, F_tcp_fault_eq]
  unfold F_tcp_fault
  simp only [to_ob]
  simp only [go_sem, ↓reduceIte, reduceCtorEq, upd_ne, back_new (no_at), Nat.reduceAdd, Nat.reduceEqDiff, Nat.reduceMul, Nat.reduceSub, Nat.reduceLeDiff, Nat.reduceLT, Int.reduceToNat, Int.reduceLE, Int.reduceLT, Int.reduceEq, UInt8.reduceOfNat]
theorem ev_two6 (s : List UInt8) (i : Nat) (a b : UInt8) (ha : s[i]? = some a) (hb : s[i + 1]? = some b) (hi : i ≤ 1000000) : S.ev (n + 1) id_tcp_two [.str s, .int .i64 (i : Int)] none = some (.int .i64 (w16 a b : Nat), none) := by
  rw [Sys.step hS.h_tcp_two, F_tcp_two_eq]
  unfold F_tcp_two
  have hal := a.toNat_lt
  have hbl := b.toNat_lt
  have e1 : IntKind.i64.wrap (a.toNat : Int) = (a.toNat : Int) := wrap_id (by omega) (by omega)
  have e2 : IntKind.i64.wrap (b.toNat : Int) = (b.toNat : Int) := wrap_id (by omega) (by omega)
  have e3 : IntKind.i64.wrap ((i : Int) + 1) = ((i + 1 : Nat) : Int) := by rw [wrap_id (by omega) (by omega)]; omega
  have e4 : IntKind.i64.wrap ((a.toNat : Int) * 2 ^ min 8 64) = ((a.toNat * 256 : Nat) : Int) := by
    rw [show min 8 64 = 8 from rfl, wrap_id (by omega) (by omega)]; omega
  have e5 := w16_or a b
  simp only [to_ob]
  simp only [go_sem, ↓reduceIte, reduceCtorEq, upd_ne, back_new (no_at), Nat.reduceAdd, Nat.reduceEqDiff, Nat.reduceMul, Nat.reduceSub, Nat.reduceLeDiff, Nat.reduceLT, Int.reduceToNat, Int.reduceLE, Int.reduceLT, Int.reduceEq, UInt8.reduceOfNat, List.getElem?_map, Int.toNat_natCast, ha, hb, e1, e2, e3, e4, e5]
theorem ev_same6 (c d : Int) : S.ev (n + 1) id_interpreterlaw06_same [udpE c, .int .i64 d] none = some (.bool (decide (c = d)), none) := by
  rw [Sys.step hS.h_interpreterlaw06_same, F_interpreterlaw06_same_eq]
  unfold F_interpreterlaw06_same udpE
  (try simp only [guard_merge, or_merge, and_merge, or_pick, and_pick, guard_or, guard_and]); simp only [to_ob]
  by_cases hc : c = 0
  · by_cases hd : d = 0
    · simp only [go_sem, ↓reduceIte, reduceCtorEq, upd_ne, back_new (no_at), Nat.reduceAdd, Nat.reduceEqDiff, Nat.reduceMul, Nat.reduceSub, Nat.reduceLeDiff, Nat.reduceLT, Int.reduceToNat, Int.reduceLE, Int.reduceLT, Int.reduceEq, UInt8.reduceOfNat, hc, hd]
    · have : ¬ (0 : Int) = d := fun e => hd e.symm
      simp only [go_sem, ↓reduceIte, reduceCtorEq, upd_ne, back_new (no_at), Nat.reduceAdd, Nat.reduceEqDiff, Nat.reduceMul, Nat.reduceSub, Nat.reduceLeDiff, Nat.reduceLT, Int.reduceToNat, Int.reduceLE, Int.reduceLT, Int.reduceEq, UInt8.reduceOfNat, hc, hd, this]
  · by_cases hd : d = 0
    · have : ¬ c = d := fun e => hc (e.trans hd)
      simp only [go_sem, ↓reduceIte, reduceCtorEq, upd_ne, back_new (no_at), Nat.reduceAdd, Nat.reduceEqDiff, Nat.reduceMul, Nat.reduceSub, Nat.reduceLeDiff, Nat.reduceLT, Int.reduceToNat, Int.reduceLE, Int.reduceLT, Int.reduceEq, UInt8.reduceOfNat, hc, hd, this]
    · simp only [go_sem, ↓reduceIte, reduceCtorEq, upd_ne, back_new (no_at), Nat.reduceAdd, Nat.reduceEqDiff, Nat.reduceMul, Nat.reduceSub, Nat.reduceLeDiff, Nat.reduceLT, Int.reduceToNat, Int.reduceLE, Int.reduceLT, Int.reduceEq, UInt8.reduceOfNat, hc, hd]

theorem ev_parse6 (s : List UInt8) (hs : s.length ≤ 140737488351232) : S.ev (n + 2) id_tcp_Parse [.str s] none = some (.tup [tcpLV s, udpE (tcpK s)], none) := by
  rw [Sys.step hS.h_tcp_Parse, F_tcp_Parse_eq]
  unfold F_tcp_Parse
  have hfa := ev_fault6 hS n
  (try simp only [guard_merge, or_merge, and_merge, or_pick, and_pick, guard_or, guard_and]); simp only [to_ob]
  unfold tcpLV tcpK
  by_cases c : s.length < 20
  · have c' : (s.length : Int) < 20 := by omega
    simp only [go_sem, ↓reduceIte, reduceCtorEq, upd_ne, back_new (no_at), Nat.reduceAdd, Nat.reduceEqDiff, Nat.reduceMul, Nat.reduceSub, Nat.reduceLeDiff, Nat.reduceLT, Int.reduceToNat, Int.reduceLE, Int.reduceLT, Int.reduceEq, UInt8.reduceOfNat, c, c', hfa, udpE]
  · have c' : ¬ (s.length : Int) < 20 := by omega
    have g12 := get_def (s := s) (i := 12) (by omega)
    have g13 := get_def (s := s) (i := 13) (by omega)
    have h0 : S.ev (n + 1) id_tcp_two [.str s, .int .i64 0] none = some (.int .i64 (w16 (s.getD 0 0) (s.getD 1 0) : Nat), none) := ev_two6 hS n s 0 _ _ (get_def (by omega)) (get_def (by omega)) (by omega)
    have h2 : S.ev (n + 1) id_tcp_two [.str s, .int .i64 2] none = some (.int .i64 (w16 (s.getD 2 0) (s.getD 3 0) : Nat), none) := ev_two6 hS n s 2 _ _ (get_def (by omega)) (get_def (by omega)) (by omega)
    have hl := (s.getD 12 0).toNat_lt
    have hl3 := (s.getD 13 0).toNat_lt
    have e1 : Int.fdiv ((s.getD 12 0).toNat : Int) (2 ^ min 4 8) = (((s.getD 12 0).toNat / 16 : Nat) : Int) := by
      rw [show min 4 8 = 4 from rfl, Int.fdiv_eq_ediv_of_nonneg _ (by decide)]; rfl
    have e2 : IntKind.i64.wrap (((s.getD 12 0).toNat / 16 : Nat) : Int) = (((s.getD 12 0).toNat / 16 : Nat) : Int) := wrap_id (by omega) (by omega)
    have e3 : IntKind.i64.wrap ((((s.getD 12 0).toNat / 16 : Nat) : Int) * 4) = ((tcpH s : Nat) : Int) := by
      rw [wrap_id (by omega) (by omega)]; unfold tcpH; omega
    have e4 : bitsOf .and .u8 ((s.getD 13 0).toNat : Int) 63 = (((s.getD 13 0).toNat % 64 : Nat) : Int) := by
      rw [show (63 : Int) = ((2 ^ 6 - 1 : Nat) : Int) from rfl, bits_mask 6 (by omega) (show ((s.getD 13 0).toNat : Int) ≤ 255 by omega) (by decide)]
      rfl
    have e5 : IntKind.i64.wrap (((s.getD 13 0).toNat % 64 : Nat) : Int) = (((s.getD 13 0).toNat % 64 : Nat) : Int) := wrap_id (by omega) (by omega)
    by_cases c1 : tcpH s < 20
    · have c1' : ((tcpH s : Nat) : Int) < 20 := by omega
      simp only [go_sem, ↓reduceIte, reduceCtorEq, upd_ne, back_new (no_at), Nat.reduceAdd, Nat.reduceEqDiff, Nat.reduceMul, Nat.reduceSub, Nat.reduceLeDiff, Nat.reduceLT, Int.reduceToNat, Int.reduceLE, Int.reduceLT, Int.reduceEq, UInt8.reduceOfNat, List.getElem?_map, Int.toNat_natCast, c, c', c1, c1', hfa, udpE, g12, byteLV, e1, e2, e3]
    · have c1' : ¬ ((tcpH s : Nat) : Int) < 20 := by omega
      by_cases c2 : s.length < tcpH s
      · have c2' : (s.length : Int) < ((tcpH s : Nat) : Int) := by omega
        simp only [go_sem, ↓reduceIte, reduceCtorEq, upd_ne, back_new (no_at), Nat.reduceAdd, Nat.reduceEqDiff, Nat.reduceMul, Nat.reduceSub, Nat.reduceLeDiff, Nat.reduceLT, Int.reduceToNat, Int.reduceLE, Int.reduceLT, Int.reduceEq, UInt8.reduceOfNat, List.getElem?_map, Int.toNat_natCast, c, c', c1, c1', c2, c2', hfa, udpE, g12, byteLV, e1, e2, e3]
      · have c2' : ¬ (s.length : Int) < ((tcpH s : Nat) : Int) := by omega
        simp only [go_sem, ↓reduceIte, reduceCtorEq, upd_ne, back_new (no_at), Nat.reduceAdd, Nat.reduceEqDiff, Nat.reduceMul, Nat.reduceSub, Nat.reduceLeDiff, Nat.reduceLT, Int.reduceToNat, Int.reduceLE, Int.reduceLT, Int.reduceEq, UInt8.reduceOfNat, List.getElem?_map, Int.toNat_natCast, c, c', c1, c1', c2, c2', h0, h2, g13, udpE, g12, byteLV, e1, e2, e3, e4, e5]

theorem ev_rparse6 (s : List UInt8) (hs : s.length ≤ 140737488351232) : S.ev (n + 2) id_interpreterref06_Parse [.str s] none = some (.tup [tcpLV s, .int .i64 (tcpK s)], none) := by
  rw [Sys.step hS.h_interpreterref06_Parse, F_interpreterref06_Parse_eq]
  unfold F_interpreterref06_Parse
  (try simp only [guard_merge, or_merge, and_merge, or_pick, and_pick, guard_or, guard_and]); simp only [to_ob]
  unfold tcpLV tcpK
  by_cases c : s.length < 20
  · have c' : (s.length : Int) < 20 := by omega
    simp only [go_sem, ↓reduceIte, reduceCtorEq, upd_ne, back_new (no_at), Nat.reduceAdd, Nat.reduceEqDiff, Nat.reduceMul, Nat.reduceSub, Nat.reduceLeDiff, Nat.reduceLT, Int.reduceToNat, Int.reduceLE, Int.reduceLT, Int.reduceEq, UInt8.reduceOfNat, c, c']
  · have c' : ¬ (s.length : Int) < 20 := by omega
    have g12 := get_def (s := s) (i := 12) (by omega)
    have g13 := get_def (s := s) (i := 13) (by omega)
    have ht : s.take 4 = [s.getD 0 0, s.getD 1 0, s.getD 2 0, s.getD 3 0] := by
      match s, c with
      | a :: b :: c :: d :: t, _ => rfl
      | [], c | [_], c | [_, _], c | [_, _, _], c => simp at c
    have hw := ev_Words hS n (s.take 4) (by simp; omega)
    have hw2 : wordsN (s.take 4) = [w16 (s.getD 0 0) (s.getD 1 0), w16 (s.getD 2 0) (s.getD 3 0)] := by rw [ht]; rfl
    rw [hw2] at hw
    simp only [intsLV, List.map_cons, List.map_nil] at hw
    have hl := (s.getD 12 0).toNat_lt
    have hl3 := (s.getD 13 0).toNat_lt
    have h4 : 4 ≤ s.length := by omega
    have e0 : IntKind.i64.wrap ((s.getD 12 0).toNat : Int) = ((s.getD 12 0).toNat : Int) := wrap_id (by omega) (by omega)
    have e2 : IntKind.i64.wrap (Int.tdiv ((s.getD 12 0).toNat : Int) 16) = (((s.getD 12 0).toNat / 16 : Nat) : Int) := by
      rw [show Int.tdiv ((s.getD 12 0).toNat : Int) 16 = (((s.getD 12 0).toNat / 16 : Nat) : Int) from rfl]; exact wrap_id (by omega) (by omega)
    have e3 : IntKind.i64.wrap (4 * (((s.getD 12 0).toNat / 16 : Nat) : Int)) = ((tcpH s : Nat) : Int) := by
      rw [wrap_id (by omega) (by omega)]; unfold tcpH; omega
    have e4 : IntKind.i64.wrap ((s.getD 13 0).toNat : Int) = ((s.getD 13 0).toNat : Int) := wrap_id (by omega) (by omega)
    have e5 : Int.tmod ((s.getD 13 0).toNat : Int) 64 = (((s.getD 13 0).toNat % 64 : Nat) : Int) := rfl
    by_cases c1 : tcpH s < 20
    · have c1' : ((tcpH s : Nat) : Int) < 20 := by omega
      simp only [go_sem, ↓reduceIte, reduceCtorEq, upd_ne, back_new (no_at), Nat.reduceAdd, Nat.reduceEqDiff, Nat.reduceMul, Nat.reduceSub, Nat.reduceLeDiff, Nat.reduceLT, Int.reduceToNat, Int.reduceLE, Int.reduceLT, Int.reduceEq, UInt8.reduceOfNat, List.getElem?_map, Int.toNat_natCast, c, c', c1, c1', g12, byteLV, e0, e2, e3]
    · have c1' : ¬ ((tcpH s : Nat) : Int) < 20 := by omega
      by_cases c2 : s.length < tcpH s
      · have c2' : (s.length : Int) < ((tcpH s : Nat) : Int) := by omega
        simp only [go_sem, ↓reduceIte, reduceCtorEq, upd_ne, back_new (no_at), Nat.reduceAdd, Nat.reduceEqDiff, Nat.reduceMul, Nat.reduceSub, Nat.reduceLeDiff, Nat.reduceLT, Int.reduceToNat, Int.reduceLE, Int.reduceLT, Int.reduceEq, UInt8.reduceOfNat, List.getElem?_map, Int.toNat_natCast, c, c', c1, c1', c2, c2', g12, byteLV, e0, e2, e3]
      · have c2' : ¬ (s.length : Int) < ((tcpH s : Nat) : Int) := by omega
        simp only [go_sem, ↓reduceIte, reduceCtorEq, upd_ne, back_new (no_at), Nat.reduceAdd, Nat.reduceEqDiff, Nat.reduceMul, Nat.reduceSub, Nat.reduceLeDiff, Nat.reduceLT, Int.reduceToNat, Int.reduceLE, Int.reduceLT, Int.reduceEq, UInt8.reduceOfNat, List.getElem?_map, Int.toNat_natCast, Nat.sub_zero, c, c', c1, c1', c2, c2', h4, hw, g13, g12, byteLV, e0, e2, e3, e4, e5]

def tcpC (s ps : List UInt8) : Int := if tcpK s ≠ 0 then tcpK s else if sumS (ps ++ s) ≠ 0 then 9 else 0
omit hS in
theorem tcpC_zero {s ps : List UInt8} : tcpC s ps = 0 ↔ tcpK s = 0 ∧ sumS (ps ++ s) = 0 := by
  unfold tcpC
  by_cases h1 : tcpK s = 0 <;> by_cases h3 : sumS (ps ++ s) = 0 <;> simp [h1, h3]
omit hS in
theorem tcpLV_ag (s : List UInt8) : (tcpLV s).isAgg = true := by unfold tcpLV; split <;> exact Eq.trans rfl rfl
omit hS in
theorem tcpLV_fl (s : List UInt8) : flatLen (tcpLV s) = 4 := by unfold tcpLV dgLV; split <;> simp only [go_sem, ↓reduceIte, reduceCtorEq, upd_ne, back_new (no_at), Nat.reduceAdd, Nat.reduceEqDiff, Nat.reduceMul, Nat.reduceSub, Nat.reduceLeDiff, Nat.reduceLT, Int.reduceToNat, Int.reduceLE, Int.reduceLT, Int.reduceEq, UInt8.reduceOfNat]
omit hS in
theorem tcpLV_ps (s : List UInt8) : psl (tcpLV s) = some (tcpLV s) := by unfold tcpLV dgLV; split <;> simp only [go_sem, ↓reduceIte, reduceCtorEq, upd_ne, back_new (no_at), Nat.reduceAdd, Nat.reduceEqDiff, Nat.reduceMul, Nat.reduceSub, Nat.reduceLeDiff, Nat.reduceLT, Int.reduceToNat, Int.reduceLE, Int.reduceLT, Int.reduceEq, UInt8.reduceOfNat]

theorem ev_check6 (s ps : List UInt8) (hs : s.length ≤ 1000000) (hp : ps.length ≤ 1000000) : S.ev (n + 4) id_tcp_Check [.str s, .str ps] none = some (udpE (tcpC s ps), none) := by
  rw [Sys.step hS.h_tcp_Check, F_tcp_Check_eq]
  unfold F_tcp_Check
  have h1 := ev_parse6 hS (n + 1) s (by omega)
  have h2 := ev_Right2 hS n ps s (by omega)
  have hfa := ev_fault6 hS (n + 2)
  (try simp only [guard_merge, or_merge, and_merge, or_pick, and_pick, guard_or, guard_and]); simp only [to_ob]
  unfold tcpC
  have k1 := tcpLV_ag s
  have k2 := tcpLV_fl s
  have k3 := tcpLV_ps s
  by_cases c : tcpK s = 0
  · rw [c] at h1
    simp only [udpE, if_true] at h1
    by_cases c3 : sumS (ps ++ s) = 0
    · simp only [go_sem, ↓reduceIte, reduceCtorEq, upd_ne, back_new (no_at), Nat.reduceAdd, Nat.reduceEqDiff, Nat.reduceMul, Nat.reduceSub, Nat.reduceLeDiff, Nat.reduceLT, Int.reduceToNat, Int.reduceLE, Int.reduceLT, Int.reduceEq, UInt8.reduceOfNat, h1, h2, hfa, c, c3, udpE, k1, k2, k3]
    · simp only [go_sem, ↓reduceIte, reduceCtorEq, upd_ne, back_new (no_at), Nat.reduceAdd, Nat.reduceEqDiff, Nat.reduceMul, Nat.reduceSub, Nat.reduceLeDiff, Nat.reduceLT, Int.reduceToNat, Int.reduceLE, Int.reduceLT, Int.reduceEq, UInt8.reduceOfNat, h1, h2, hfa, c, c3, udpE, k1, k2, k3]
  · simp only [udpE, c, if_false] at h1
    simp only [go_sem, ↓reduceIte, reduceCtorEq, upd_ne, back_new (no_at), Nat.reduceAdd, Nat.reduceEqDiff, Nat.reduceMul, Nat.reduceSub, Nat.reduceLeDiff, Nat.reduceLT, Int.reduceToNat, Int.reduceLE, Int.reduceLT, Int.reduceEq, UInt8.reduceOfNat, h1, c, udpE, k1, k2, k3]
theorem ev_rcheck6 (s ps : List UInt8) (hs : s.length ≤ 400000) (hp : ps.length ≤ 400000) : S.ev (n + 3) id_interpreterref06_Check [.str s, .str ps] none = some (.int .i64 (tcpC s ps), none) := by
  rw [Sys.step hS.h_interpreterref06_Check, F_interpreterref06_Check_eq]
  unfold F_interpreterref06_Check
  have h1 := ev_rparse6 hS n s (by omega)
  have h2 := ev_rOf hS n (ps ++ s) (by rw [List.length_append]; omega)
  have hm : ps.length + s.length ≤ maxStr := by unfold maxStr; omega
  (try simp only [guard_merge, or_merge, and_merge, or_pick, and_pick, guard_or, guard_and]); simp only [to_ob]
  unfold tcpC
  have h2 : S.ev (n + 2) id_interpreterref02_Of [.str (ps ++ s)] none = some (.int .i64 (sumS (ps ++ s)), none) := h2
  have k1 := tcpLV_ag s
  have k2 := tcpLV_fl s
  have k3 := tcpLV_ps s
  by_cases c : tcpK s = 0
  · rw [c] at h1
    by_cases c3 : sumS (ps ++ s) = 0
    · simp only [go_sem, ↓reduceIte, reduceCtorEq, upd_ne, back_new (no_at), Nat.reduceAdd, Nat.reduceEqDiff, Nat.reduceMul, Nat.reduceSub, Nat.reduceLeDiff, Nat.reduceLT, Int.reduceToNat, Int.reduceLE, Int.reduceLT, Int.reduceEq, UInt8.reduceOfNat, hm, h1, h2, c, c3, k1, k2, k3]
    · simp only [go_sem, ↓reduceIte, reduceCtorEq, upd_ne, back_new (no_at), Nat.reduceAdd, Nat.reduceEqDiff, Nat.reduceMul, Nat.reduceSub, Nat.reduceLeDiff, Nat.reduceLT, Int.reduceToNat, Int.reduceLE, Int.reduceLT, Int.reduceEq, UInt8.reduceOfNat, hm, h1, h2, c, c3, k1, k2, k3]
  · simp only [go_sem, ↓reduceIte, reduceCtorEq, upd_ne, back_new (no_at), Nat.reduceAdd, Nat.reduceEqDiff, Nat.reduceMul, Nat.reduceSub, Nat.reduceLeDiff, Nat.reduceLT, Int.reduceToNat, Int.reduceLE, Int.reduceLT, Int.reduceEq, UInt8.reduceOfNat, hm, h1, c, k1, k2, k3]
end
end Go.Ev

/- Layer 6: segments written. -/
namespace Go.Ev
set_option linter.unusedSimpArgs false
set_option linter.unusedVariables false
set_option maxRecDepth 4000
set_option maxHeartbeats 2000000
attribute [go_sem ↓] tcpLV_ag tcpLV_fl tcpLV_ps

def tcpA (fr to : Int) (raw : List UInt8) : List UInt8 := beB 2 fr.toNat ++ (beB 2 to.toNat ++ (raw.drop 4).take 12)
def tcpX (fr to : Int) (raw ps : List UInt8) : Int := sumS (ps ++ (tcpA fr to raw ++ ([0, 0] ++ raw.drop 18)))
def tcpW (fr to : Int) (raw ps : List UInt8) : List UInt8 := tcpA fr to raw ++ (beB 2 (tcpX fr to raw ps).toNat ++ raw.drop 18)
def tcpKB (fr to : Int) (raw : List UInt8) : Int := if tcpK raw = 0 then (if (0 ≤ fr ∧ fr < 65536) ∧ 0 ≤ to ∧ to < 65536 then 0 else 13) else tcpK raw
def tcpB (fr to : Int) (raw ps : List UInt8) : List UInt8 := if tcpKB fr to raw = 0 then tcpW fr to raw ps else []

theorem cons_of {s : List UInt8} {n : Nat} (h : n + 1 ≤ s.length) : ∃ a t, s = a :: t ∧ n ≤ t.length := by
  match s, h with
  | a :: t, h => exact ⟨a, t, rfl, by simpa using h⟩
theorem len20 {s : List UInt8} (h : 20 ≤ s.length) : ∃ a b c d e f g i j k l m n o p q r t x y z, s = a :: b :: c :: d :: e :: f :: g :: i :: j :: k :: l :: m :: n :: o :: p :: q :: r :: t :: x :: y :: z := by
  obtain ⟨a, r0, e0, h0⟩ := cons_of h
  obtain ⟨b, r1, e1, h1⟩ := cons_of h0
  obtain ⟨c, r2, e2, h2⟩ := cons_of h1
  obtain ⟨d, r3, e3, h3⟩ := cons_of h2
  obtain ⟨e, r4, e4, h4⟩ := cons_of h3
  obtain ⟨f, r5, e5, h5⟩ := cons_of h4
  obtain ⟨g, r6, e6, h6⟩ := cons_of h5
  obtain ⟨i, r7, e7, h7⟩ := cons_of h6
  obtain ⟨j, r8, e8, h8⟩ := cons_of h7
  obtain ⟨k, r9, e9, h9⟩ := cons_of h8
  obtain ⟨l, r10, e10, h10⟩ := cons_of h9
  obtain ⟨m, r11, e11, h11⟩ := cons_of h10
  obtain ⟨n, r12, e12, h12⟩ := cons_of h11
  obtain ⟨o, r13, e13, h13⟩ := cons_of h12
  obtain ⟨p, r14, e14, h14⟩ := cons_of h13
  obtain ⟨q, r15, e15, h15⟩ := cons_of h14
  obtain ⟨r, r16, e16, h16⟩ := cons_of h15
  obtain ⟨t, r17, e17, h17⟩ := cons_of h16
  obtain ⟨x, r18, e18, h18⟩ := cons_of h17
  obtain ⟨y, r19, e19, h19⟩ := cons_of h18
  subst e0 e1 e2 e3 e4 e5 e6 e7 e8 e9 e10 e11 e12 e13 e14 e15 e16 e17 e18 e19
  exact ⟨a, b, c, d, e, f, g, i, j, k, l, m, n, o, p, q, r, t, x, y, r19, rfl⟩
theorem u8_lt (c : UInt8) : (c.toNat : Int) < 256 := by have := c.toNat_lt; omega
theorem u8_hi {x : Nat} (h : x < 65536) : IntKind.u8.wrap (IntKind.i64.wrap (Int.tdiv (x : Int) 256)) = ((UInt8.ofNat (x / 256)).toNat : Int) := by
  rw [show Int.tdiv (x : Int) 256 = ((x / 256 : Nat) : Int) from rfl, wrap_id (by omega) (by omega), u8_wrap, UInt8.toNat_ofNat']
theorem u8_lo (x : Nat) : IntKind.u8.wrap (Int.tmod (x : Int) 256) = ((UInt8.ofNat x).toNat : Int) := by
  rw [show Int.tmod (x : Int) 256 = ((x % 256 : Nat) : Int) from rfl, u8_wrap, UInt8.toNat_ofNat']
  simp

section
variable {S : Sys} (hS : Has S) (n : Nat)
include hS
theorem ev_bytes6 (fr to fl : Int) (raw ps : List UInt8) (hf : I64 fr) (ht : I64 to) (hd : raw.length ≤ 1000000) (hp : ps.length ≤ 1000000) :
    S.ev (n + 3) id_tcp_Bytes [dgLV fr to fl raw, .str ps] none = some (.tup [.str (tcpB fr to raw ps), udpE (tcpKB fr to raw)], none) := by
  rw [Sys.step hS.h_tcp_Bytes, F_tcp_Bytes_eq]
  unfold F_tcp_Bytes
  have b1 : S.ev (n + 2) id_num_Big [.int .i64 fr, .int .i64 2] none = some (bigR fr 2, none) := ev_Big hS (n + 1) fr 2 (by omega) hf
  have b2 : S.ev (n + 2) id_num_Big [.int .i64 to, .int .i64 2] none = some (bigR to 2, none) := ev_Big hS (n + 1) to 2 (by omega) ht
  have h0 := ev_parse6 hS n raw (by omega)
  have hx := sumS_le (ps ++ (tcpA fr to raw ++ ([0, 0] ++ raw.drop 18)))
  have hx : 0 ≤ tcpX fr to raw ps ∧ tcpX fr to raw ps ≤ 65535 := hx
  have b4 : S.ev (n + 2) id_num_Big [.int .i64 (tcpX fr to raw ps), .int .i64 2] none = some (bigR (tcpX fr to raw ps) 2, none) := ev_Big hS (n + 1) _ 2 (by omega) ⟨by omega, by omega⟩
  have r4 : bigR (tcpX fr to raw ps) 2 = .tup [.str (beB 2 (tcpX fr to raw ps).toNat), .nili] := by unfold bigR; rw [if_pos (by simp; omega)]
  rw [r4] at b4
  have hlm : ((raw.drop 4).take 12).length ≤ 12 := by simp; omega
  have hl1 := beB_len 2 fr.toNat
  have hl2 := beB_len 2 to.toNat
  have hl4 := beB_len 2 (tcpX fr to raw ps).toNat
  have ho := ev_Of hS n [ps, tcpA fr to raw, [0, 0], raw.drop 18] (by simp) (by simp [tcpA, beB_len]; omega)
  simp only [List.map_cons, List.map_nil, List.flatten_cons, List.flatten_nil, List.append_nil] at ho
  have ho : S.ev (n + 2) id_sum_Of [.lst none [.str ps, .str (beB 2 fr.toNat ++ (beB 2 to.toNat ++ (raw.drop 4).take 12)), .str [0, 0], .str (raw.drop 18)]] none = some (.int .i64 (tcpX fr to raw ps), none) := ho
  unfold bigR at b1 b2
  (try simp only [guard_merge, or_merge, and_merge, or_pick, and_pick, guard_or, guard_and]); simp only [to_ob]
  unfold tcpB tcpKB
  by_cases c0 : tcpK raw = 0
  · have hl := tcpK_len c0
    rw [c0] at h0
    simp only [udpE, if_true] at h0
    have m0 : 16 ≤ raw.length := by omega
    have m1 : 18 ≤ raw.length := by omega
    by_cases c1 : 0 ≤ fr ∧ fr < 65536
    · have c1' : 0 ≤ fr ∧ fr < ((256 ^ 2 : Nat) : Int) := c1
      rw [if_pos c1'] at b1
      by_cases c2 : 0 ≤ to ∧ to < 65536
      · have c2' : 0 ≤ to ∧ to < ((256 ^ 2 : Nat) : Int) := c2
        rw [if_pos c2'] at b2
        have m4 : 4 ≤ maxStr := by decide
        have m5 : 4 + ((raw.drop 4).take 12).length ≤ maxStr := by unfold maxStr; omega
        have m6 : 4 + ((raw.drop 4).take 12).length + 2 ≤ maxStr := by unfold maxStr; omega
        have m7 : 4 + ((raw.drop 4).take 12).length + 2 + (raw.drop 18).length ≤ maxStr := by have : (raw.drop 18).length ≤ raw.length := by simp
                                                                                              unfold maxStr; omega
        generalize hmid : (raw.drop 4).take 12 = mid at *
        generalize hend : raw.drop 18 = rest at *
        have hrest : rest.take (raw.length - 18) = rest := List.take_of_length_le (by rw [← hend]; simp)
        have hrl : rest.length ≤ raw.length := by rw [← hend]; simp
        simp only [go_sem, ↓reduceIte, reduceCtorEq, upd_ne, back_new (no_at), Nat.reduceAdd, Nat.reduceEqDiff, Nat.reduceMul, Nat.reduceSub, Nat.reduceLeDiff, Nat.reduceLT, Int.reduceToNat, Int.reduceLE, Int.reduceLT, Int.reduceEq, UInt8.reduceOfNat, Nat.sub_zero, h0, c0, m0, m1, hl1, hl2, hl4, b1, b2, b4, c1, c2, hmid, hend, m4, m5, m6, m7, ho, hrest, List.length_append, List.append_assoc, udpE, tcpW, tcpA]
        rw [if_pos (by unfold maxStr; omega), if_pos (by unfold maxStr; omega)]
      · have c2' : ¬ (0 ≤ to ∧ to < ((256 ^ 2 : Nat) : Int)) := c2
        rw [if_neg c2'] at b2
        simp only [go_sem, ↓reduceIte, reduceCtorEq, upd_ne, back_new (no_at), Nat.reduceAdd, Nat.reduceEqDiff, Nat.reduceMul, Nat.reduceSub, Nat.reduceLeDiff, Nat.reduceLT, Int.reduceToNat, Int.reduceLE, Int.reduceLT, Int.reduceEq, UInt8.reduceOfNat, h0, b1, b2, c0, c1, c2, udpE]
    · have c1' : ¬ (0 ≤ fr ∧ fr < ((256 ^ 2 : Nat) : Int)) := c1
      rw [if_neg c1'] at b1
      simp only [go_sem, ↓reduceIte, reduceCtorEq, upd_ne, back_new (no_at), Nat.reduceAdd, Nat.reduceEqDiff, Nat.reduceMul, Nat.reduceSub, Nat.reduceLeDiff, Nat.reduceLT, Int.reduceToNat, Int.reduceLE, Int.reduceLT, Int.reduceEq, UInt8.reduceOfNat, h0, b1, c0, c1, udpE]
  · simp only [udpE, c0, if_false] at h0
    simp only [go_sem, ↓reduceIte, reduceCtorEq, upd_ne, back_new (no_at), Nat.reduceAdd, Nat.reduceEqDiff, Nat.reduceMul, Nat.reduceSub, Nat.reduceLeDiff, Nat.reduceLT, Int.reduceToNat, Int.reduceLE, Int.reduceLT, Int.reduceEq, UInt8.reduceOfNat, h0, c0, udpE]

theorem ev_rbytes6 (fr to fl : Int) (raw ps : List UInt8) (hf : I64 fr) (ht : I64 to) (hd : raw.length ≤ 400000) (hp : ps.length ≤ 400000) :
    S.ev (n + 3) id_interpreterref06_Bytes [dgLV fr to fl raw, .str ps] none = some (.tup [.str (tcpB fr to raw ps), .int .i64 (tcpKB fr to raw)], none) := by
  rw [Sys.step hS.h_interpreterref06_Bytes, F_interpreterref06_Bytes_eq]
  unfold F_interpreterref06_Bytes
  have h0 := ev_rparse6 hS n raw (by omega)
  (try simp only [guard_merge, or_merge, and_merge, or_pick, and_pick, guard_or, guard_and]); simp only [to_ob]
  unfold tcpB tcpKB
  by_cases c0 : tcpK raw = 0
  · have hl := tcpK_len c0
    rw [c0] at h0
    by_cases c1 : (0 ≤ fr ∧ fr < 65536) ∧ 0 ≤ to ∧ to < 65536
    · have c1' : ¬ (((fr < 0 ∨ 65535 < fr) ∨ to < 0) ∨ 65535 < to) := by omega
      obtain ⟨⟨c11, c12⟩, c13, c14⟩ := c1
      obtain ⟨x, rfl⟩ := Int.eq_ofNat_of_zero_le c11
      obtain ⟨y, rfl⟩ := Int.eq_ofNat_of_zero_le c13
      have hx := sumS_le (ps ++ (tcpA x y raw ++ ([0, 0] ++ raw.drop 18)))
      have hx : 0 ≤ tcpX x y raw ps ∧ tcpX x y raw ps ≤ 65535 := hx
      have ho := ev_rOf hS n (ps ++ (tcpA x y raw ++ ([0, 0] ++ raw.drop 18))) (by simp [tcpA, beB_len]; omega)
      have ho : S.ev (n + 2) id_interpreterref02_Of [.str (ps ++ (tcpA x y raw ++ ([0, 0] ++ raw.drop 18)))] none = some (.int .i64 (tcpX x y raw ps), none) := ho
      have hW : tcpW x y raw ps = tcpA x y raw ++ (beB 2 (tcpX x y raw ps).toNat ++ raw.drop 18) := rfl
      obtain ⟨z, hz⟩ := Int.eq_ofNat_of_zero_le hx.1
      rw [hz] at ho hW hx
      generalize tcpW x y raw ps = W at *
      clear hz
      simp only [tcpA, Int.toNat_natCast, beB2] at ho hW
      have e1 := u8_hi (x := x) (by omega)
      have e2 := u8_lo x
      have e3 := u8_hi (x := y) (by omega)
      have e4 := u8_lo y
      have e5 := u8_hi (x := z) (by omega)
      have e6 := u8_lo z
      have k1 := tcpLV_ag raw
      have k2 := tcpLV_fl raw
      have k3 := tcpLV_ps raw
      generalize tcpLV raw = lv at *
      obtain ⟨a0, a1, a2, a3, a4, a5, a6, a7, a8, a9, a10, a11, a12, a13, a14, a15, a16, a17, a18, a19, t, rfl⟩ := len20 hl
      have m18 : t.length + 1 + 1 + 1 + 1 + 1 + 1 + 1 + 1 + 1 + 1 + 1 + 1 + 1 + 1 + 1 + 1 + 1 + 1 + 1 + 1 ≤ 1099511627776 := by simp at hd; omega
      have m0 : 0 < t.length + 1 + 1 + 1 + 1 + 1 + 1 + 1 + 1 + 1 + 1 + 1 + 1 + 1 + 1 + 1 + 1 + 1 + 1 + 1 + 1 := by omega
      have m1 : 1 < t.length + 1 + 1 + 1 + 1 + 1 + 1 + 1 + 1 + 1 + 1 + 1 + 1 + 1 + 1 + 1 + 1 + 1 + 1 + 1 + 1 := by omega
      have m2 : 2 < t.length + 1 + 1 + 1 + 1 + 1 + 1 + 1 + 1 + 1 + 1 + 1 + 1 + 1 + 1 + 1 + 1 + 1 + 1 + 1 + 1 := by omega
      have m3 : 3 < t.length + 1 + 1 + 1 + 1 + 1 + 1 + 1 + 1 + 1 + 1 + 1 + 1 + 1 + 1 + 1 + 1 + 1 + 1 + 1 + 1 := by omega
      have m16 : 16 < t.length + 1 + 1 + 1 + 1 + 1 + 1 + 1 + 1 + 1 + 1 + 1 + 1 + 1 + 1 + 1 + 1 + 1 + 1 + 1 + 1 := by omega
      have m17 : 17 < t.length + 1 + 1 + 1 + 1 + 1 + 1 + 1 + 1 + 1 + 1 + 1 + 1 + 1 + 1 + 1 + 1 + 1 + 1 + 1 + 1 := by omega
      have m20 : ps.length + (t.length + 1 + 1 + 1 + 1 + 1 + 1 + 1 + 1 + 1 + 1 + 1 + 1 + 1 + 1 + 1 + 1 + 1 + 1 + 1 + 1) ≤ maxStr := by unfold maxStr; simp at hd; omega
      simp only [go_sem, ↓reduceIte, reduceCtorEq, upd_ne, back_new (no_at), Nat.reduceAdd, Nat.reduceEqDiff, Nat.reduceMul, Nat.reduceSub, Nat.reduceLeDiff, Nat.reduceLT, Int.reduceToNat, Int.reduceLE, Int.reduceLT, Int.reduceEq, UInt8.reduceOfNat] at ho hW
      simp only [go_sem, ↓reduceIte, reduceCtorEq, upd_ne, back_new (no_at), Nat.reduceAdd, Nat.reduceEqDiff, Nat.reduceMul, Nat.reduceSub, Nat.reduceLeDiff, Nat.reduceLT, Int.reduceToNat, Int.reduceLE, Int.reduceLT, Int.reduceEq, UInt8.reduceOfNat, List.getElem?_map, Int.toNat_natCast, h0, c0, c1', c12, c14, m18, m20, Nat.le_refl, k1, k2, k3, m0, m1, m2, m3, m16, m17, byteLV, e1, e2, e3, e4, e5, e6, u8_lt, UInt8.ofNat_toNat, ho, hW]
    · have c1' : (((fr < 0 ∨ 65535 < fr) ∨ to < 0) ∨ 65535 < to) := by omega
      simp only [go_sem, ↓reduceIte, reduceCtorEq, upd_ne, back_new (no_at), Nat.reduceAdd, Nat.reduceEqDiff, Nat.reduceMul, Nat.reduceSub, Nat.reduceLeDiff, Nat.reduceLT, Int.reduceToNat, Int.reduceLE, Int.reduceLT, Int.reduceEq, UInt8.reduceOfNat, h0, c0, c1, c1']
  · simp only [go_sem, ↓reduceIte, reduceCtorEq, upd_ne, back_new (no_at), Nat.reduceAdd, Nat.reduceEqDiff, Nat.reduceMul, Nat.reduceSub, Nat.reduceLeDiff, Nat.reduceLT, Int.reduceToNat, Int.reduceLE, Int.reduceLT, Int.reduceEq, UInt8.reduceOfNat, h0, c0]
end
end Go.Ev

/- Layer 6: the statements. -/
namespace Go.Ev
set_option linter.unusedSimpArgs false
set_option linter.unusedVariables false
set_option maxRecDepth 4000
set_option maxHeartbeats 2000000

def raw6 : List UInt8 := [0, 0, 0, 0, 0, 0, 0, 0, 0, 0, 0, 0, 80, 0, 0, 0, 0, 0, 0, 0]
section
variable {S : Sys} (hS : Has S) (n : Nat)
include hS
theorem ev_raw6 : S.ev (n + 2) id_interpreterlaw06_raw [] none = some (.str raw6, none) := by
  rw [Sys.step hS.h_interpreterlaw06_raw, F_interpreterlaw06_raw_eq]
  unfold F_interpreterlaw06_raw
  have r1 : S.ev (n + 1) id_strings_Repeat [.str [0], .int .i64 12] none = some (.str [0, 0, 0, 0, 0, 0, 0, 0, 0, 0, 0, 0], none) := hS.x_rep.ev n (c := 12) (by decide) (by decide)
  have r2 : S.ev (n + 1) id_strings_Repeat [.str [0], .int .i64 7] none = some (.str [0, 0, 0, 0, 0, 0, 0], none) := hS.x_rep.ev n (c := 7) (by decide) (by decide)
  have m1 : 13 ≤ maxStr := by decide
  have m2 : 20 ≤ maxStr := by decide
  (try simp only [guard_merge, or_merge, and_merge, or_pick, and_pick, guard_or, guard_and]); simp only [to_ob]
  simp only [go_sem, ↓reduceIte, reduceCtorEq, upd_ne, back_new (no_at), Nat.reduceAdd, Nat.reduceEqDiff, Nat.reduceMul, Nat.reduceSub, Nat.reduceLeDiff, Nat.reduceLT, Int.reduceToNat, Int.reduceLE, Int.reduceLT, Int.reduceEq, UInt8.reduceOfNat, r1, r2, m1, m2, raw6]
theorem ev_awake6 : S.ev (n + 4) id_interpreterlaw06_awake [] none = some (.bool true, none) := by
  rw [Sys.step hS.h_interpreterlaw06_awake, F_interpreterlaw06_awake_eq]
  unfold F_interpreterlaw06_awake
  have r0 := ev_raw6 hS (n + 1)
  have h1 := ev_bytes6 hS n 1 2 0 raw6 [] ⟨by omega, by omega⟩ ⟨by omega, by omega⟩ (by decide) (by simp)
  rw [show tcpB 1 2 raw6 [] = [0, 1, 0, 2, 0, 0, 0, 0, 0, 0, 0, 0, 80, 0, 0, 0, 175, 252, 0, 0] by decide, show tcpKB 1 2 raw6 = 0 by decide] at h1
  have h2 := ev_parse6 hS (n + 1) [0, 1, 0, 2, 0, 0, 0, 0, 0, 0, 0, 0, 80, 0, 0, 0, 175, 252, 0, 0] (by simp)
  rw [show tcpK [0, 1, 0, 2, 0, 0, 0, 0, 0, 0, 0, 0, 80, 0, 0, 0, 175, 252, 0, 0] = 0 by decide, show tcpLV [0, 1, 0, 2, 0, 0, 0, 0, 0, 0, 0, 0, 80, 0, 0, 0, 175, 252, 0, 0] = dgLV 1 2 0 [0, 1, 0, 2, 0, 0, 0, 0, 0, 0, 0, 0, 80, 0, 0, 0, 175, 252, 0, 0] from rfl] at h2
  have r1 : S.ev (n + 3) id_strings_Repeat [.str [0], .int .i64 8] none = some (.str [0, 0, 0, 0, 0, 0, 0, 0], none) := hS.x_rep.ev (n + 2) (c := 8) (by decide) (by decide)
  have m1 : 12 ≤ maxStr := by decide
  have m2 : 20 ≤ maxStr := by decide
  simp only [udpE, if_true, dgLV, raw6] at h1 h2 r0
  (try simp only [guard_merge, or_merge, and_merge, or_pick, and_pick, guard_or, guard_and]); simp only [to_ob]
  simp only [go_sem, ↓reduceIte, reduceCtorEq, upd_ne, back_new (no_at), Nat.reduceAdd, Nat.reduceEqDiff, Nat.reduceMul, Nat.reduceSub, Nat.reduceLeDiff, Nat.reduceLT, Int.reduceToNat, Int.reduceLE, Int.reduceLT, Int.reduceEq, UInt8.reduceOfNat, r0, h1, h2, r1, m1, m2]

theorem ev_TcpReads {vs : List LV} (h : fitVL [.str, .str] vs) : S.ev (n + 5) id_interpreterlaw06_TcpReads vs none = some (.bool true, none) := by
  obtain ⟨a, r, e, g1, q1⟩ := fit_cons h; clear h; subst e; obtain ⟨s, rfl, hs⟩ := fit_str g1; clear g1
  obtain ⟨a, r, e, g2, q2⟩ := fit_cons q1; clear q1; subst e; obtain ⟨ps, rfl, hp⟩ := fit_str g2; clear g2
  obtain rfl := fit_nil q2
  rw [Sys.step hS.h_interpreterlaw06_TcpReads, F_interpreterlaw06_TcpReads_eq]
  unfold F_interpreterlaw06_TcpReads
  have ha := ev_awake6 hS n
  have h1 := ev_parse6 hS (n + 2) s hs
  have h2 := ev_rparse6 hS (n + 2) s hs
  have hsm := ev_same6 hS (n + 3)
  (try simp only [guard_merge, or_merge, and_merge, or_pick, and_pick, guard_or, guard_and]); simp only [to_ob]
  by_cases c : 70000 < (s.length : Int) ∨ 1000 < (ps.length : Int)
  · simp only [go_sem, ↓reduceIte, reduceCtorEq, upd_ne, back_new (no_at), Nat.reduceAdd, Nat.reduceEqDiff, Nat.reduceMul, Nat.reduceSub, Nat.reduceLeDiff, Nat.reduceLT, Int.reduceToNat, Int.reduceLE, Int.reduceLT, Int.reduceEq, UInt8.reduceOfNat, ha, c]
  · have h3 := ev_check6 hS n s ps (by omega) (by omega)
    have h4 := ev_rcheck6 hS (n + 1) s ps (by omega) (by omega)
    unfold tcpLV at h1 h2
    by_cases c0 : tcpK s = 0
    · rw [c0] at h1 h2
      simp only [if_true, udpE] at h1 h2
      have s0 : S.ev (n + 4) id_interpreterlaw06_same [.nili, .int .i64 0] none = some (.bool true, none) := hsm 0 0
      simp only [go_sem, ↓reduceIte, reduceCtorEq, upd_ne, back_new (no_at), Nat.reduceAdd, Nat.reduceEqDiff, Nat.reduceMul, Nat.reduceSub, Nat.reduceLeDiff, Nat.reduceLT, Int.reduceToNat, Int.reduceLE, Int.reduceLT, Int.reduceEq, UInt8.reduceOfNat, ha, c, h1, h2, h3, h4, s0, hsm, l_call]
    · simp only [c0, if_false, dgLV] at h1 h2
      simp only [go_sem, ↓reduceIte, reduceCtorEq, upd_ne, back_new (no_at), Nat.reduceAdd, Nat.reduceEqDiff, Nat.reduceMul, Nat.reduceSub, Nat.reduceLeDiff, Nat.reduceLT, Int.reduceToNat, Int.reduceLE, Int.reduceLT, Int.reduceEq, UInt8.reduceOfNat, ha, c, h1, h2, h3, h4, hsm, l_call]

theorem ev_TcpWrites {vs : List LV} (h : fitVL [.agg [.int .i64, .int .i64, .int .i64, .str], .str] vs) : S.ev (n + 5) id_interpreterlaw06_TcpWrites vs none = some (.bool true, none) := by
  obtain ⟨a, r, e, g1, q1⟩ := fit_cons h; clear h; subst e; obtain ⟨fr, to, su, da, rfl, hd⟩ := fit_dg g1; clear g1
  obtain ⟨a, r, e, g2, q2⟩ := fit_cons q1; clear q1; subst e; obtain ⟨ps, rfl, hp⟩ := fit_str g2; clear g2
  obtain rfl := fit_nil q2
  rw [Sys.step hS.h_interpreterlaw06_TcpWrites, F_interpreterlaw06_TcpWrites_eq]
  unfold F_interpreterlaw06_TcpWrites
  have ha := ev_awake6 hS n
  have hsm := ev_same6 hS (n + 3)
  (try simp only [guard_merge, or_merge, and_merge, or_pick, and_pick, guard_or, guard_and]); simp only [to_ob]
  by_cases c : 70000 < (da.length : Int) ∨ 1000 < (ps.length : Int)
  · simp only [go_sem, ↓reduceIte, reduceCtorEq, upd_ne, back_new (no_at), Nat.reduceAdd, Nat.reduceEqDiff, Nat.reduceMul, Nat.reduceSub, Nat.reduceLeDiff, Nat.reduceLT, Int.reduceToNat, Int.reduceLE, Int.reduceLT, Int.reduceEq, UInt8.reduceOfNat, ha, c]
  · have h1 := ev_bytes6 hS (n + 1) fr to su da ps hd.hfr hd.hto (by omega) (by omega)
    have h2 := ev_rbytes6 hS (n + 1) fr to su da ps hd.hfr hd.hto (by omega) (by omega)
    simp only [go_sem, ↓reduceIte, reduceCtorEq, upd_ne, back_new (no_at), Nat.reduceAdd, Nat.reduceEqDiff, Nat.reduceMul, Nat.reduceSub, Nat.reduceLeDiff, Nat.reduceLT, Int.reduceToNat, Int.reduceLE, Int.reduceLT, Int.reduceEq, UInt8.reduceOfNat, ha, c, h1, h2, hsm, l_call]
end
end Go.Ev

/- Layer 6: there and back. -/
namespace Go.Ev
set_option linter.unusedSimpArgs false
set_option linter.unusedVariables false
set_option maxRecDepth 4000
set_option maxHeartbeats 2000000

theorem tcpX_le (fr to : Int) (raw ps : List UInt8) : 0 ≤ tcpX fr to raw ps ∧ tcpX fr to raw ps ≤ 65535 := sumS_le _
theorem tcpW_len {fr to : Int} {raw ps : List UInt8} (h : 20 ≤ raw.length) : (tcpW fr to raw ps).length = raw.length := by
  unfold tcpW tcpA; simp [beB_len]; omega
theorem tcpW_mid {fr to : Int} {raw ps : List UInt8} (h : 20 ≤ raw.length) : ((tcpW fr to raw ps).drop 4).take 12 = (raw.drop 4).take 12 := by
  unfold tcpW tcpA
  generalize (tcpX fr to raw ps).toNat = x
  obtain ⟨_, _, _, _, _, _, _, _, _, _, _, _, _, _, _, _, _, _, _, _, t, rfl⟩ := len20 h
  simp [beB2]
theorem tcpW_end {fr to : Int} {raw ps : List UInt8} (h : 20 ≤ raw.length) : (tcpW fr to raw ps).drop 18 = raw.drop 18 := by
  unfold tcpW tcpA
  generalize (tcpX fr to raw ps).toNat = x
  obtain ⟨_, _, _, _, _, _, _, _, _, _, _, _, _, _, _, _, _, _, _, _, t, rfl⟩ := len20 h
  simp [beB2]
theorem tcpW_at {fr to : Int} {raw ps : List UInt8} (h : 20 ≤ raw.length) : (tcpW fr to raw ps).getD 12 0 = raw.getD 12 0 ∧ (tcpW fr to raw ps).getD 13 0 = raw.getD 13 0 ∧
    (tcpW fr to raw ps).getD 0 0 = UInt8.ofNat (fr.toNat / 256) ∧ (tcpW fr to raw ps).getD 1 0 = UInt8.ofNat fr.toNat ∧ (tcpW fr to raw ps).getD 2 0 = UInt8.ofNat (to.toNat / 256) ∧ (tcpW fr to raw ps).getD 3 0 = UInt8.ofNat to.toNat ∧
    (tcpW fr to raw ps).getD 16 0 = UInt8.ofNat ((tcpX fr to raw ps).toNat / 256) ∧ (tcpW fr to raw ps).getD 17 0 = UInt8.ofNat (tcpX fr to raw ps).toNat := by
  unfold tcpW tcpA
  generalize (tcpX fr to raw ps).toNat = x
  obtain ⟨_, _, _, _, _, _, _, _, _, _, _, _, _, _, _, _, _, _, _, _, t, rfl⟩ := len20 h
  simp [beB2]
theorem tcpK_W {fr to : Int} {raw ps : List UInt8} (h : tcpK raw = 0) : tcpK (tcpW fr to raw ps) = 0 := by
  have hl := tcpK_len h
  have ha := tcpW_at (fr := fr) (to := to) (ps := ps) hl
  have hn := tcpW_len (fr := fr) (to := to) (ps := ps) hl
  unfold tcpK tcpH at *
  rw [ha.1, hn]
  exact h
theorem tcpLV_W {fr to : Nat} {raw ps : List UInt8} (h : tcpK raw = 0) (h1 : fr < 65536) (h2 : to < 65536) : tcpLV (tcpW fr to raw ps) = dgLV fr to (((raw.getD 13 0).toNat % 64 : Nat) : Int) (tcpW fr to raw ps) := by
  have hl := tcpK_len h
  obtain ⟨_, a13, a0, a1, a2, a3, _⟩ := tcpW_at (fr := fr) (to := to) (ps := ps) hl
  rw [tcpLV_0 (tcpK_W h), a13, a0, a1, a2, a3, Int.toNat_natCast, Int.toNat_natCast, w16_beB h1, w16_beB h2]
theorem tcpA_len {fr to : Int} {raw : List UInt8} (h : 20 ≤ raw.length) : (tcpA fr to raw).length = 16 := by
  unfold tcpA; simp [beB_len]; omega
theorem tcpW_sum {fr to : Int} {raw ps : List UInt8} (hp : ps.length % 2 = 0) (h : 20 ≤ raw.length) : sumAt 0 (ps ++ tcpW fr to raw ps) = sumAt 0 (ps ++ (tcpA fr to raw ++ ([0, 0] ++ raw.drop 18))) + (tcpX fr to raw ps).toNat := by
  have hx := tcpX_le fr to raw ps
  have hb := w16_beB (x := (tcpX fr to raw ps).toNat) (by omega)
  have hl := tcpA_len (fr := fr) (to := to) h
  unfold w16 at hb
  unfold tcpW
  simp only [beB2, sumAt_append, List.cons_append, List.nil_append, sumAt, hl]
  simp only [show (0 + ps.length + 16) % 2 = 0 by omega, show ¬ (0 + ps.length + 16 + 1) % 2 = 0 by omega, if_true, if_false]
  simp only [UInt8.toNat_zero]
  omega
theorem tcpW_right {fr to : Int} {raw ps : List UInt8} (hp : ps.length % 2 = 0) (h : 20 ≤ raw.length) : ones (sumAt 0 (ps ++ tcpW fr to raw ps)) = 65535 := by
  rw [tcpW_sum hp h]
  have h1 := ones_le (sumAt 0 (ps ++ (tcpA fr to raw ++ ([0, 0] ++ raw.drop 18))))
  have h2 : (tcpX fr to raw ps).toNat = 65535 - ones (sumAt 0 (ps ++ (tcpA fr to raw ++ ([0, 0] ++ raw.drop 18)))) := by unfold tcpX sumS; omega
  rw [h2]
  exact right_of0.resolve_right (fun h => h.2)

section
variable {S : Sys} (hS : Has S) (n : Nat)
include hS
theorem ev_TcpKnown {vs : List LV} (h : fitVL [] vs) : S.ev (n + 5) id_interpreterlaw06_TcpKnown vs none = some (.bool true, none) := by
  obtain rfl := fit_nil h
  rw [Sys.step hS.h_interpreterlaw06_TcpKnown, F_interpreterlaw06_TcpKnown_eq]
  unfold F_interpreterlaw06_TcpKnown
  have ha := ev_awake6 hS n
  have r0 := ev_raw6 hS (n + 2)
  have hsm := ev_same6 hS (n + 3)
  have r1 : S.ev (n + 4) id_strings_Repeat [.str [0], .int .i64 20] none = some (.str [0, 0, 0, 0, 0, 0, 0, 0, 0, 0, 0, 0, 0, 0, 0, 0, 0, 0, 0, 0], none) := hS.x_rep.ev (n + 3) (c := 20) (by decide) (by decide)
  have h1 := ev_parse6 hS (n + 2) [0, 0, 0, 0, 0, 0, 0, 0, 0, 0, 0, 0, 80, 0, 0, 0, 0, 0, 0] (by simp)
  have h2 := ev_parse6 hS (n + 2) [0, 0, 0, 0, 0, 0, 0, 0, 0, 0, 0, 0, 0, 0, 0, 0, 0, 0, 0, 0] (by simp)
  have h3 := ev_bytes6 hS (n + 1) 65536 0 0 raw6 [] ⟨by omega, by omega⟩ ⟨by omega, by omega⟩ (by decide) (by simp)
  have h4 := ev_parse6 hS (n + 2) [0, 0, 0, 0, 0, 0, 0, 0, 0, 0, 0, 0, 80, 255, 0, 0, 0, 0, 0, 0] (by simp)
  have h5 := ev_parse6 hS (n + 2) [0, 0, 0, 0, 0, 0, 0, 0, 0, 0, 0, 0, 96, 0, 0, 0, 0, 0, 0, 0] (by simp)
  rw [show tcpK [0, 0, 0, 0, 0, 0, 0, 0, 0, 0, 0, 0, 80, 0, 0, 0, 0, 0, 0] = 7 by decide] at h1
  rw [show tcpK [0, 0, 0, 0, 0, 0, 0, 0, 0, 0, 0, 0, 0, 0, 0, 0, 0, 0, 0, 0] = 8 by decide] at h2
  rw [show tcpB 65536 0 raw6 [] = [] by decide, show tcpKB 65536 0 raw6 = 13 by decide] at h3
  rw [show tcpK [0, 0, 0, 0, 0, 0, 0, 0, 0, 0, 0, 0, 80, 255, 0, 0, 0, 0, 0, 0] = 0 by decide, show tcpLV [0, 0, 0, 0, 0, 0, 0, 0, 0, 0, 0, 0, 80, 255, 0, 0, 0, 0, 0, 0] = dgLV 0 0 63 [0, 0, 0, 0, 0, 0, 0, 0, 0, 0, 0, 0, 80, 255, 0, 0, 0, 0, 0, 0] from rfl] at h4
  rw [show tcpK [0, 0, 0, 0, 0, 0, 0, 0, 0, 0, 0, 0, 96, 0, 0, 0, 0, 0, 0, 0] = 7 by decide] at h5
  have u0 : udpE 0 = .nili := rfl
  rw [u0] at h4
  have s1 := hsm 7 7
  have s2 := hsm 8 8
  have s3 := hsm 13 13
  have m0 : 14 ≤ maxStr := by decide
  have m1 : 13 ≤ maxStr := by decide
  have m2 : 20 ≤ maxStr := by decide
  simp only [dgLV, raw6] at h3 h4 r0
  (try simp only [guard_merge, or_merge, and_merge, or_pick, and_pick, guard_or, guard_and]); simp only [to_ob]
  simp only [go_sem, ↓reduceIte, reduceCtorEq, upd_ne, back_new (no_at), Nat.reduceAdd, Nat.reduceEqDiff, Nat.reduceMul, Nat.reduceSub, Nat.reduceLeDiff, Nat.reduceLT, Int.reduceToNat, Int.reduceLE, Int.reduceLT, Int.reduceEq, UInt8.reduceOfNat, Nat.sub_zero, ha, r0, r1, h1, h2, h3, h4, h5, s1, s2, s3, m0, m1, m2]

theorem ev_TcpBack {vs : List LV} (h : fitVL [.agg [.int .i64, .int .i64, .int .i64, .str], .str, .int .u16, .int .u8] vs) : S.ev (n + 5) id_interpreterlaw06_TcpBack vs none = some (.bool true, none) := by
  obtain ⟨a, r, e, g1, q1⟩ := fit_cons h; clear h; subst e; obtain ⟨fr, to, fl, raw, rfl, hd⟩ := fit_dg g1; clear g1
  obtain ⟨a, r, e, g2, q2⟩ := fit_cons q1; clear q1; subst e; obtain ⟨ps0, rfl, hp⟩ := fit_str g2; clear g2
  obtain ⟨a, r, e, g3, q3⟩ := fit_cons q2; clear q2; subst e; obtain ⟨kat, rfl, hk0, hk1⟩ := fit_u16 g3; clear g3
  obtain ⟨a, r, e, g4, q4⟩ := fit_cons q3; clear q3; subst e; obtain ⟨bit, rfl, hb0, hb1⟩ := fit_u8 g4; clear g4
  obtain rfl := fit_nil q4
  rw [Sys.step hS.h_interpreterlaw06_TcpBack, F_interpreterlaw06_TcpBack_eq]
  unfold F_interpreterlaw06_TcpBack
  have ha := ev_awake6 hS n
  (try simp only [guard_merge, or_merge, and_merge, or_pick, and_pick, guard_or, guard_and]); simp only [to_ob]
  by_cases c : 70000 < (raw.length : Int) ∨ 1000 < (ps0.length : Int)
  · simp only [go_sem, ↓reduceIte, reduceCtorEq, upd_ne, back_new (no_at), Nat.reduceAdd, Nat.reduceEqDiff, Nat.reduceMul, Nat.reduceSub, Nat.reduceLeDiff, Nat.reduceLT, Int.reduceToNat, Int.reduceLE, Int.reduceLT, Int.reduceEq, UInt8.reduceOfNat, ha, c]
  · have e1 : IntKind.i64.wrap (IntKind.i64.wrap (Int.tdiv (ps0.length : Int) 2) * 2) = ((ps0.length / 2 * 2 : Nat) : Int) := by
      rw [show Int.tdiv (ps0.length : Int) 2 = ((ps0.length / 2 : Nat) : Int) from rfl, wrap_id (n := ((ps0.length / 2 : Nat) : Int)) (by omega) (by omega), wrap_id (by omega) (by omega)]; omega
    have e2 : ps0.length / 2 * 2 ≤ ps0.length := by omega
    generalize hps : ps0.take (ps0.length / 2 * 2) = ps
    have hpl : ps.length = ps0.length / 2 * 2 := by rw [← hps, List.length_take]; omega
    have h1 := ev_bytes6 hS (n + 1) fr to fl raw ps hd.hfr hd.hto (by omega) (by omega)
    obtain ⟨at', rfl⟩ := Int.eq_ofNat_of_zero_le hk0
    obtain ⟨bt, rfl⟩ := Int.eq_ofNat_of_zero_le hb0
    by_cases ck : tcpKB fr to raw = 0
    · have hk := ck
      unfold tcpKB at hk
      split at hk
      case isFalse => contradiction
      rename_i hK
      split at hk
      case isFalse => simp at hk
      rename_i hr
      obtain ⟨⟨r1, r2⟩, r3, r4⟩ := hr
      obtain ⟨x, rfl⟩ := Int.eq_ofNat_of_zero_le r1
      obtain ⟨y, rfl⟩ := Int.eq_ofNat_of_zero_le r3
      have hl := tcpK_len hK
      have hx : x < 65536 := by omega
      have hy : y < 65536 := by omega
      simp only [tcpB, ck, if_true, udpE] at h1
      have hlen := tcpW_len (fr := x) (to := y) (ps := ps) hl
      have h2 := ev_parse6 hS (n + 2) (tcpW x y raw ps) (by rw [hlen]; omega)
      rw [tcpLV_W hK hx hy, tcpK_W hK] at h2
      simp only [udpE, if_true] at h2
      have hright : ones (sumAt 0 (ps ++ tcpW x y raw ps)) = 65535 := tcpW_right (by omega) hl
      have h3 := ev_check6 hS n (tcpW x y raw ps) ps (by rw [hlen]; omega) (by omega)
      have hc0 : tcpC (tcpW x y raw ps) ps = 0 := tcpC_zero.2 ⟨tcpK_W hK, sumS_zero.2 hright⟩
      rw [hc0] at h3
      simp only [udpE, if_true] at h3
      have hmid := tcpW_mid (fr := x) (to := y) (ps := ps) hl
      have hend := tcpW_end (fr := x) (to := y) (ps := ps) hl
      have g13 := get_def (s := raw) (i := 13) (by omega)
      have hl3 := (raw.getD 13 0).toNat_lt
      have f4 : bitsOf .and .u8 ((raw.getD 13 0).toNat : Int) 63 = (((raw.getD 13 0).toNat % 64 : Nat) : Int) := by
        rw [show (63 : Int) = ((2 ^ 6 - 1 : Nat) : Int) from rfl, bits_mask 6 (by omega) (show ((raw.getD 13 0).toNat : Int) ≤ 255 by omega) (by decide)]
        rfl
      have f5 : IntKind.i64.wrap (((raw.getD 13 0).toNat % 64 : Nat) : Int) = (((raw.getD 13 0).toNat % 64 : Nat) : Int) := wrap_id (by omega) (by omega)
      generalize tcpW x y raw ps = W at *
      have m0 : ¬ (raw.length : Int) < 20 := by omega
      have m1 : W.length ≤ 1099511627776 := by omega
      have m2 : ¬ (raw.length : Int) = 0 := by omega
      have m3 : 16 ≤ raw.length := by omega
      have m4 : 18 ≤ raw.length := by omega
      have m5 : raw.length ≤ 1099511627776 := by omega
      have e3 : IntKind.i64.wrap (at' : Int) = (at' : Int) := wrap_id (by omega) (by omega)
      have e4 : Int.tmod (at' : Int) (raw.length : Int) = ((at' % raw.length : Nat) : Int) := rfl
      have hk : at' % raw.length < raw.length := Nat.mod_lt _ (by omega)
      generalize at' % raw.length = k at *
      have hg : W[k]? = some W[k] := List.getElem?_eq_getElem (by omega)
      generalize W[k] = cb at *
      have hcb := cb.toNat_lt
      have e5 : Int.tmod (bt : Int) 8 = ((bt % 8 : Nat) : Int) := rfl
      have hj : bt % 8 < 8 := by omega
      generalize bt % 8 = j at *
      have e6 : min j 8 = j := by omega
      have e8 : (2 : Nat) ^ j ≤ 2 ^ 7 := Nat.pow_le_pow_right (by decide) (by omega)
      have e9 : (2 : Nat) ^ 7 = 128 := by decide
      have e7 : IntKind.u8.wrap (1 * 2 ^ j) = ((2 ^ j : Nat) : Int) := by
        rw [Int.one_mul, show (2 : Int) ^ j = ((2 ^ j : Nat) : Int) by simp]
        rw [u8_wrap, Nat.mod_eq_of_lt (by omega)]
      have e10 : bitsOf .xor .u8 (cb.toNat : Int) ((2 ^ j : Nat) : Int) = ((cb.toNat ^^^ 2 ^ j : Nat) : Int) := by
        rw [bits_xor_nat (show (cb.toNat : Int) ≤ 255 by omega) (show ((2 ^ j : Nat) : Int) ≤ ((255 : Nat) : Int) from Int.ofNat_le.2 (by omega))]
      have e12 : ((cb.toNat ^^^ 2 ^ j : Nat) : Int) < 256 := by
        have := Nat.xor_lt_two_pow (n := 8) hcb (show 2 ^ j < 2 ^ 8 by omega)
        omega
      have e13 : (W.set k (UInt8.ofNat (cb.toNat ^^^ 2 ^ j))).take raw.length = W.set k (UInt8.ofNat (cb.toNat ^^^ 2 ^ j)) := List.take_of_length_le (by simp; omega)
      have e11 : ¬ ((j : Nat) : Int) < 0 := by omega
      have hdd : (UInt8.ofNat (cb.toNat ^^^ 2 ^ j)).toNat = cb.toNat ^^^ 2 ^ j := by
        rw [UInt8.toNat_ofNat']
        exact Nat.mod_eq_of_lt (Nat.xor_lt_two_pow (n := 8) hcb (by omega))
      have h4 := ev_check6 hS n (W.set k (UInt8.ofNat (cb.toNat ^^^ 2 ^ j))) ps (by simp; omega) (by omega)
      have hbad : ¬ tcpC (W.set k (UInt8.ofNat (cb.toNat ^^^ 2 ^ j))) ps = 0 := by
        rw [tcpC_zero]
        rintro ⟨_, h⟩
        rw [sumS_zero] at h
        have hw := flip_told (s := ps ++ W) (p := 0) (k := ps.length + k) (by rw [List.getElem?_append_right (by omega)]; simpa using hg) hj hdd hright
        rw [List.set_append_right _ _ (by omega), Nat.add_sub_cancel_left] at hw
        exact hw h
      simp only [udpE, hbad, if_false] at h4
      simp only [go_sem, ↓reduceIte, reduceCtorEq, upd_ne, back_new (no_at), Nat.reduceAdd, Nat.reduceEqDiff, Nat.reduceMul, Nat.reduceSub, Nat.reduceLeDiff, Nat.reduceLT, Int.reduceToNat, Int.reduceLE, Int.reduceLT, Int.reduceEq, UInt8.reduceOfNat, Nat.sub_zero, ha, c, e1, e2, hps, h1, h2, h3, hlen, hmid, hend, g13, f4, f5, m0, m1, m2, m3, m4, m5, e3, e4, e5, e6, e7, e10, e11, hk, hg, byteLV, h4, Nat.le_refl, e12, e13]
    · have h1' : tcpB fr to raw ps = [] := by unfold tcpB; rw [if_neg ck]
      simp only [h1', udpE, ck, if_false] at h1
      simp only [go_sem, ↓reduceIte, reduceCtorEq, upd_ne, back_new (no_at), Nat.reduceAdd, Nat.reduceEqDiff, Nat.reduceMul, Nat.reduceSub, Nat.reduceLeDiff, Nat.reduceLT, Int.reduceToNat, Int.reduceLE, Int.reduceLT, Int.reduceEq, UInt8.reduceOfNat, Nat.sub_zero, ha, c, e1, e2, hps, h1]
end
end Go.Ev

/- Layer 6: what was parsed. -/
namespace Go.Ev
set_option linter.unusedSimpArgs false
set_option linter.unusedVariables false
set_option maxRecDepth 4000
set_option maxHeartbeats 2000000

theorem beB_w16 (a b : UInt8) : beB 2 (w16 a b) = [a, b] := by
  have ha := a.toNat_lt
  have hb := b.toNat_lt
  rw [beB2]
  have h1 : UInt8.ofNat (w16 a b / 256) = a := by apply UInt8.toNat_inj.1; rw [UInt8.toNat_ofNat']; unfold w16; omega
  have h2 : UInt8.ofNat (w16 a b) = b := by apply UInt8.toNat_inj.1; rw [UInt8.toNat_ofNat']; unfold w16; omega
  rw [h1, h2]
theorem tcpW_cong {fr to : Int} {raw raw' ps : List UInt8} (h1 : (raw.drop 4).take 12 = (raw'.drop 4).take 12) (h2 : raw.drop 18 = raw'.drop 18) : tcpW fr to raw ps = tcpW fr to raw' ps := by
  unfold tcpW tcpX tcpA; rw [h1, h2]
def own6 (s : List UInt8) : Nat × Nat := (w16 (s.getD 0 0) (s.getD 1 0), w16 (s.getD 2 0) (s.getD 3 0))
theorem tcpA_own {s : List UInt8} (h : 20 ≤ s.length) : tcpA ((own6 s).1 : Nat) ((own6 s).2 : Nat) s = s.take 16 := by
  unfold tcpA own6
  obtain ⟨_, _, _, _, _, _, _, _, _, _, _, _, _, _, _, _, _, _, _, _, t, rfl⟩ := len20 h
  simp only [Int.toNat_natCast, beB_w16]
  rfl
theorem split18 {s : List UInt8} (h : 20 ≤ s.length) : s = s.take 16 ++ ([s.getD 16 0, s.getD 17 0] ++ s.drop 18) := by
  obtain ⟨_, _, _, _, _, _, _, _, _, _, _, _, _, _, _, _, _, _, _, _, t, rfl⟩ := len20 h
  rfl
theorem tcpW_take {fr to : Int} {raw ps : List UInt8} (h : 20 ≤ raw.length) : (tcpW fr to raw ps).take 16 = tcpA fr to raw := by
  unfold tcpW
  rw [List.take_append_of_le_length (by rw [tcpA_len h]; omega), List.take_of_length_le (by rw [tcpA_len h]; omega)]
theorem mid18 {s : List UInt8} (h : 20 ≤ s.length) : (s.drop 16).take 2 = [s.getD 16 0, s.getD 17 0] := by
  obtain ⟨_, _, _, _, _, _, _, _, _, _, _, _, _, _, _, _, _, _, _, _, t, rfl⟩ := len20 h
  rfl
/-- What is right is written again, but for a sum that can be written twice. -/
theorem tcpW_again {s ps : List UInt8} (hp : ps.length % 2 = 0) (h : 20 ≤ s.length) (ho : ones (sumAt 0 (ps ++ s)) = 65535) (hn : (s.drop 16).take 2 ≠ [255, 255]) : tcpW ((own6 s).1 : Nat) ((own6 s).2 : Nat) s ps = s := by
  have hx := tcpX_le ((own6 s).1 : Nat) ((own6 s).2 : Nat) s ps
  have hs := split18 h
  have ht : (s.take 16).length = 16 := by rw [List.length_take]; omega
  rw [mid18 h] at hn
  generalize s.getD 16 0 = a at *
  generalize s.getD 17 0 = b at *
  have ha := a.toNat_lt
  have hb := b.toNat_lt
  have hT : sumAt 0 (ps ++ s) = sumAt 0 (ps ++ (tcpA ((own6 s).1 : Nat) ((own6 s).2 : Nat) s ++ ([0, 0] ++ s.drop 18))) + w16 a b := by
    rw [tcpA_own h]
    conv => lhs; rw [hs]
    simp only [sumAt_append, List.cons_append, List.nil_append, sumAt, ht]
    simp only [show (0 + ps.length + 16) % 2 = 0 by omega, show ¬ (0 + ps.length + 16 + 1) % 2 = 0 by omega, if_true, if_false]
    simp only [UInt8.toNat_zero]
    unfold w16
    omega
  have hne : w16 a b ≠ 65535 := by
    intro e
    apply hn
    have e1 : a = 255 := by apply UInt8.toNat_inj.1; show a.toNat = 255; unfold w16 at e; omega
    have e2 : b = 255 := by apply UInt8.toNat_inj.1; show b.toNat = 255; unfold w16 at e; omega
    rw [e1, e2]
  have hX : (tcpX ((own6 s).1 : Nat) ((own6 s).2 : Nat) s ps).toNat = w16 a b := by
    have h2 : (tcpX ((own6 s).1 : Nat) ((own6 s).2 : Nat) s ps).toNat = 65535 - ones (sumAt 0 (ps ++ (tcpA ((own6 s).1 : Nat) ((own6 s).2 : Nat) s ++ ([0, 0] ++ s.drop 18)))) := by
      have := ones_le (sumAt 0 (ps ++ (tcpA ((own6 s).1 : Nat) ((own6 s).2 : Nat) s ++ ([0, 0] ++ s.drop 18))))
      unfold tcpX sumS; omega
    rw [h2]
    rw [hT] at ho
    generalize sumAt 0 (ps ++ (tcpA ((own6 s).1 : Nat) ((own6 s).2 : Nat) s ++ ([0, 0] ++ s.drop 18))) = T at *
    have h3 := ones_le T
    have hw : w16 a b ≤ 65535 := by unfold w16; omega
    generalize w16 a b = w at *
    have h4 := ones_full.1 ho
    unfold ones at h3 ⊢
    split <;> omega
  have : tcpW ((own6 s).1 : Nat) ((own6 s).2 : Nat) s ps = s.take 16 ++ ([a, b] ++ s.drop 18) := by
    unfold tcpW
    rw [hX, beB_w16, tcpA_own h]
  rw [this]
  exact hs.symm

section
variable {S : Sys} (hS : Has S) (n : Nat)
include hS
theorem ev_TcpAgain {vs : List LV} (h : fitVL [.str, .str, .int .u16, .int .u16] vs) : S.ev (n + 5) id_interpreterlaw06_TcpAgain vs none = some (.bool true, none) := by
  obtain ⟨a, r, e, g1, q1⟩ := fit_cons h; clear h; subst e; obtain ⟨s, rfl, hs⟩ := fit_str g1; clear g1
  obtain ⟨a, r, e, g2, q2⟩ := fit_cons q1; clear q1; subst e; obtain ⟨ps0, rfl, hp⟩ := fit_str g2; clear g2
  obtain ⟨a, r, e, g3, q3⟩ := fit_cons q2; clear q2; subst e; obtain ⟨f2, rfl, hk0, hk1⟩ := fit_u16 g3; clear g3
  obtain ⟨a, r, e, g4, q4⟩ := fit_cons q3; clear q3; subst e; obtain ⟨t2, rfl, hb0, hb1⟩ := fit_u16 g4; clear g4
  obtain rfl := fit_nil q4
  rw [Sys.step hS.h_interpreterlaw06_TcpAgain, F_interpreterlaw06_TcpAgain_eq]
  unfold F_interpreterlaw06_TcpAgain
  have ha := ev_awake6 hS n
  (try simp only [guard_merge, or_merge, and_merge, or_pick, and_pick, guard_or, guard_and]); simp only [to_ob]
  by_cases c : 70000 < (s.length : Int) ∨ 1000 < (ps0.length : Int)
  · simp only [go_sem, ↓reduceIte, reduceCtorEq, upd_ne, back_new (no_at), Nat.reduceAdd, Nat.reduceEqDiff, Nat.reduceMul, Nat.reduceSub, Nat.reduceLeDiff, Nat.reduceLT, Int.reduceToNat, Int.reduceLE, Int.reduceLT, Int.reduceEq, UInt8.reduceOfNat, ha, c]
  · have e1 : IntKind.i64.wrap (IntKind.i64.wrap (Int.tdiv (ps0.length : Int) 2) * 2) = ((ps0.length / 2 * 2 : Nat) : Int) := by
      rw [show Int.tdiv (ps0.length : Int) 2 = ((ps0.length / 2 : Nat) : Int) from rfl, wrap_id (n := ((ps0.length / 2 : Nat) : Int)) (by omega) (by omega), wrap_id (by omega) (by omega)]; omega
    have e2 : ps0.length / 2 * 2 ≤ ps0.length := by omega
    generalize hps : ps0.take (ps0.length / 2 * 2) = ps
    have hpl : ps.length = ps0.length / 2 * 2 := by rw [← hps, List.length_take]; omega
    obtain ⟨f2, rfl⟩ := Int.eq_ofNat_of_zero_le hk0
    obtain ⟨t2, rfl⟩ := Int.eq_ofNat_of_zero_le hb0
    have e3 : IntKind.i64.wrap (f2 : Int) = (f2 : Int) := wrap_id (by omega) (by omega)
    have e4 : IntKind.i64.wrap (t2 : Int) = (t2 : Int) := wrap_id (by omega) (by omega)
    have h1 := ev_parse6 hS (n + 2) s (by omega)
    have h5 := ev_check6 hS n s ps (by omega) (by omega)
    by_cases hK : tcpK s = 0
    · have hl := tcpK_len hK
      have hx : (own6 s).1 < 65536 := by have := (s.getD 0 0).toNat_lt; have := (s.getD 1 0).toNat_lt; simp only [own6, w16]; omega
      have hy : (own6 s).2 < 65536 := by have := (s.getD 2 0).toNat_lt; have := (s.getD 3 0).toNat_lt; simp only [own6, w16]; omega
      rw [tcpLV_0 hK, hK] at h1
      have h1 : S.ev (n + 4) id_tcp_Parse [.str s] none = some (.tup [dgLV ((own6 s).1 : Nat) ((own6 s).2 : Nat) (((s.getD 13 0).toNat % 64 : Nat) : Int) s, udpE 0], none) := h1
      have h2 := ev_bytes6 hS (n + 1) ((own6 s).1 : Nat) ((own6 s).2 : Nat) (((s.getD 13 0).toNat % 64 : Nat) : Int) s ps ⟨by omega, by omega⟩ ⟨by omega, by omega⟩ (by omega) (by omega)
      have h3 := ev_bytes6 hS (n + 1) f2 t2 0 s ps ⟨by omega, by omega⟩ ⟨by omega, by omega⟩ (by omega) (by omega)
      have k2 : tcpKB ((own6 s).1 : Nat) ((own6 s).2 : Nat) s = 0 := by unfold tcpKB; rw [if_pos hK, if_pos ⟨⟨by omega, by omega⟩, by omega, by omega⟩]
      have k3 : tcpKB f2 t2 s = 0 := by unfold tcpKB; rw [if_pos hK, if_pos ⟨⟨by omega, by omega⟩, by omega, by omega⟩]
      have hWl := tcpW_len (fr := f2) (to := t2) (ps := ps) hl
      have h4 := ev_bytes6 hS (n + 1) ((own6 s).1 : Nat) ((own6 s).2 : Nat) 0 (tcpW f2 t2 s ps) ps ⟨by omega, by omega⟩ ⟨by omega, by omega⟩ (by rw [hWl]; omega) (by omega)
      have k4 : tcpKB ((own6 s).1 : Nat) ((own6 s).2 : Nat) (tcpW f2 t2 s ps) = 0 := by unfold tcpKB; rw [if_pos (tcpK_W hK), if_pos ⟨⟨by omega, by omega⟩, by omega, by omega⟩]
      simp only [tcpB, k2, k3, k4, if_true, udpE] at h1 h2 h3 h4
      have hcg : tcpW ((own6 s).1 : Nat) ((own6 s).2 : Nat) (tcpW f2 t2 s ps) ps = tcpW ((own6 s).1 : Nat) ((own6 s).2 : Nat) s ps := tcpW_cong (tcpW_mid hl) (tcpW_end hl)
      rw [hcg] at h4
      have h6 := ev_check6 hS n (tcpW f2 t2 s ps) ps (by rw [hWl]; omega) (by omega)
      have hc0 : tcpC (tcpW f2 t2 s ps) ps = 0 := tcpC_zero.2 ⟨tcpK_W hK, sumS_zero.2 (tcpW_right (by omega) hl)⟩
      rw [hc0] at h6
      simp only [udpE, if_true] at h6
      have hol := tcpW_len (fr := (own6 s).1) (to := (own6 s).2) (ps := ps) hl
      have hot : (tcpW ((own6 s).1 : Nat) ((own6 s).2 : Nat) s ps).take 16 = s.take 16 := by rw [tcpW_take hl, tcpA_own hl]
      have hoe := tcpW_end (fr := (own6 s).1) (to := (own6 s).2) (ps := ps) hl
      have hag := tcpW_again (s := s) (ps := ps) (by omega) hl
      generalize tcpW ((own6 s).1 : Nat) ((own6 s).2 : Nat) s ps = W at *
      generalize tcpW f2 t2 s ps = W2 at *
      have m0 : ¬ (s.length : Int) < 20 := by omega
      have m1 : 16 ≤ s.length := by omega
      have m2 : 18 ≤ s.length := by omega
      by_cases c5 : tcpC s ps = 0
      · rw [c5] at h5
        simp only [udpE, if_true] at h5
        have hag := hag (sumS_zero.1 (tcpC_zero.1 c5).2)
        by_cases c6 : W = s
        · simp only [go_sem, ↓reduceIte, reduceCtorEq, upd_ne, back_new (no_at), Nat.reduceAdd, Nat.reduceEqDiff, Nat.reduceMul, Nat.reduceSub, Nat.reduceLeDiff, Nat.reduceLT, Int.reduceToNat, Int.reduceLE, Int.reduceLT, Int.reduceEq, UInt8.reduceOfNat, Nat.sub_zero, ha, c, e1, e2, e3, e4, hps, h1, h2, h3, h4, h5, h6, hol, hot, hoe, m0, m1, m2, c6]
        · have c7 : (s.drop 16).take 2 = [255, 255] := Classical.byContradiction fun h => c6 (hag h)
          simp only [go_sem, ↓reduceIte, reduceCtorEq, upd_ne, back_new (no_at), Nat.reduceAdd, Nat.reduceEqDiff, Nat.reduceMul, Nat.reduceSub, Nat.reduceLeDiff, Nat.reduceLT, Int.reduceToNat, Int.reduceLE, Int.reduceLT, Int.reduceEq, UInt8.reduceOfNat, Nat.sub_zero, ha, c, e1, e2, e3, e4, hps, h1, h2, h3, h4, h5, h6, hol, hot, hoe, m0, m1, m2, c6, c7]
      · simp only [udpE, c5, if_false] at h5
        simp only [go_sem, ↓reduceIte, reduceCtorEq, upd_ne, back_new (no_at), Nat.reduceAdd, Nat.reduceEqDiff, Nat.reduceMul, Nat.reduceSub, Nat.reduceLeDiff, Nat.reduceLT, Int.reduceToNat, Int.reduceLE, Int.reduceLT, Int.reduceEq, UInt8.reduceOfNat, Nat.sub_zero, ha, c, e1, e2, e3, e4, hps, h1, h2, h3, h4, h5, h6, hol, hot, hoe, m0, m1, m2]
    · have hc : ¬ tcpC s ps = 0 := fun h => hK (tcpC_zero.1 h).1
      unfold tcpLV at h1
      simp only [hK, if_false, udpE] at h1
      simp only [udpE, hc, if_false] at h5
      simp only [go_sem, ↓reduceIte, reduceCtorEq, upd_ne, back_new (no_at), Nat.reduceAdd, Nat.reduceEqDiff, Nat.reduceMul, Nat.reduceSub, Nat.reduceLeDiff, Nat.reduceLT, Int.reduceToNat, Int.reduceLE, Int.reduceLT, Int.reduceEq, UInt8.reduceOfNat, Nat.sub_zero, ha, c, e1, e2, hps, h1, h5]
end
end Go.Ev

/- Layer 2: a sum when a piece changes. -/
namespace Go.Ev
set_option linter.unusedSimpArgs false
set_option linter.unusedVariables false
set_option maxRecDepth 4000
set_option maxHeartbeats 1000000
def turn (u : UInt8) (s : List UInt8) : List UInt8 := s.map (· ^^^ u)
theorem turn_len (u : UInt8) (s : List UInt8) : (turn u s).length = s.length := by simp [turn]
theorem turn_get {u : UInt8} {s : List UInt8} {i : Nat} {c : UInt8} (h : s[i]? = some c) : (turn u s)[i]? = some (c ^^^ u) := by simp [turn, h]
theorem not_tab : ∀ c : Fin 256, c.val ^^^ 255 = 255 - c.val := by decide +kernel
theorem turn_sum : ∀ (s : List UInt8), s.length % 2 = 0 → sumAt 0 (turn 255 s) + sumAt 0 s = 65535 * (s.length / 2)
  | [], _ => rfl
  | [_], h => by simp at h
  | a :: b :: s, h => by
    have hi := turn_sum s (by simp at h; omega)
    have h1 : (a ^^^ 255).toNat = 255 - a.toNat := by rw [UInt8.toNat_xor]; exact not_tab ⟨a.toNat, a.toNat_lt⟩
    have h2 : (b ^^^ 255).toNat = 255 - b.toNat := by rw [UInt8.toNat_xor]; exact not_tab ⟨b.toNat, b.toNat_lt⟩
    have ha := a.toNat_lt
    have hb := b.toNat_lt
    have e : turn 255 (a :: b :: s) = (a ^^^ 255) :: (b ^^^ 255) :: turn 255 s := rfl
    rw [e]
    simp only [sumAt, sumAt_two, h1, h2, List.length_cons]
    simp
    omega
section
variable {S : Sys} (hS : Has S) (n : Nat)
include hS
theorem ev_addT (u : UInt8) (m p : Nat) (s : List UInt8) (hb : m + 65280 * s.length ≤ 9223372036854775807) (hp : p + s.length ≤ 9223372036854775806) :
    S.ev (n + 1) id_sum_add [.int .i64 (m : Int), .int .i64 (p : Int), .str s, .int .u8 (u.toNat : Int)] none = some (.int .i64 (m + sumAt p (turn u s) : Nat), none) := by
  rw [Sys.step hS.h_sum_add, F_sum_add_eq]
  unfold F_sum_add
  (try simp only [guard_merge, or_merge, and_merge, or_pick, and_pick, guard_or, guard_and]); simp only [to_ob]
  simp only [go_sem, ↓reduceIte, reduceCtorEq, upd_ne, back_new (no_at), Nat.reduceAdd, Nat.reduceEqDiff, Nat.reduceMul, Nat.reduceSub, Nat.reduceLeDiff, Nat.reduceLT, Int.reduceToNat, Int.reduceLE, Int.reduceLT, Int.reduceEq, UInt8.reduceOfNat]
  refine while_rule (fun k q => ∃ x i : Nat, q = ([.int .i64 (x : Int), .int .i64 (i : Int)], noSlots) ∧ i + k = s.length ∧ x + sumAt (p + i) ((turn u s).drop i) = m + sumAt p (turn u s)) s.length ⟨m, 0, rfl, by simp, by simp⟩ ?_
  rintro k q ⟨x, i, rfl, hi, hx⟩
  have hle := sumAt_le (turn u s) p
  rw [turn_len] at hle
  have hul := u.toNat_lt
  simp only [go_sem, ↓reduceIte, reduceCtorEq, upd_ne, back_new (no_at), Nat.reduceAdd, Nat.reduceEqDiff, Nat.reduceMul, Nat.reduceSub, Nat.reduceLeDiff, Nat.reduceLT, Int.reduceToNat, Int.reduceLE, Int.reduceLT, Int.reduceEq, UInt8.reduceOfNat]
  refine nxt_ite (fun h => ?_) (fun h => ?_)
  · have hlt : i < s.length := by omega
    obtain ⟨c, hc⟩ : ∃ c, s[i]? = some c := ⟨s[i], by simp [hlt]⟩
    have htc := turn_get (u := u) hc
    have hlt2 : i < (turn u s).length := by rw [turn_len]; exact hlt
    have hd : (turn u s).drop i = (c ^^^ u) :: (turn u s).drop (i + 1) := by
      rw [List.drop_eq_getElem_cons hlt2]; congr 1; simpa [hlt2] using htc
    have hcl := c.toNat_lt
    have hcu := (c ^^^ u).toNat_lt
    rw [hd] at hx
    simp only [sumAt] at hx
    have e0 : bitsOf .xor .u8 (c.toNat : Int) (u.toNat : Int) = ((c ^^^ u).toNat : Int) := by
      rw [bits_xor_nat (by simp [IntKind.max, IntKind.signed, IntKind.bits]; omega) (by simp [IntKind.max, IntKind.signed, IntKind.bits]; omega), UInt8.toNat_xor]
    generalize (c ^^^ u) = d at *
    have e1 : IntKind.i64.wrap (d.toNat : Int) = (d.toNat : Int) := wrap_id (by omega) (by omega)
    have e2 : IntKind.i64.wrap ((p : Int) + (i : Int)) = ((p + i : Nat) : Int) := by rw [wrap_id (by omega) (by omega)]; omega
    have e3 : Int.tmod ((p + i : Nat) : Int) 2 = (((p + i) % 2 : Nat) : Int) := by
      rw [Int.tmod_eq_emod_of_nonneg (by omega)]; omega
    have e4 : IntKind.i64.wrap ((d.toNat : Int) * 2 ^ min 8 64) = ((d.toNat * 256 : Nat) : Int) := by
      rw [show min 8 64 = 8 from rfl, wrap_id (by omega) (by omega)]; omega
    have e6 : IntKind.i64.wrap ((i : Int) + 1) = ((i + 1 : Nat) : Int) := by rw [wrap_id (by omega) (by omega)]; omega
    simp only [go_sem, ↓reduceIte, reduceCtorEq, upd_ne, back_new (no_at), Nat.reduceAdd, Nat.reduceEqDiff, Nat.reduceMul, Nat.reduceSub, Nat.reduceLeDiff, Nat.reduceLT, Int.reduceToNat, Int.reduceLE, Int.reduceLT, Int.reduceEq, UInt8.reduceOfNat, List.getElem?_map, Int.toNat_natCast, hc, e0, e1, e2, e3, e4, e6]
    by_cases hpar : (p + i) % 2 = 0
    · rw [if_pos hpar] at hx
      have e5 : IntKind.i64.wrap ((x : Int) + ((d.toNat * 256 : Nat) : Int)) = ((x + d.toNat * 256 : Nat) : Int) := by
        rw [wrap_id (by omega) (by omega)]; omega
      have hq : (((p + i) % 2 : Nat) : Int) = 0 := by omega
      simp only [go_sem, ↓reduceIte, reduceCtorEq, upd_ne, back_new (no_at), Nat.reduceAdd, Nat.reduceEqDiff, Nat.reduceMul, Nat.reduceSub, Nat.reduceLeDiff, Nat.reduceLT, Int.reduceToNat, Int.reduceLE, Int.reduceLT, Int.reduceEq, UInt8.reduceOfNat, hq, e5]
      exact ⟨k - 1, by omega, _, i + 1, rfl, by omega, by rw [show p + (i + 1) = p + i + 1 by omega]; omega⟩
    · rw [if_neg hpar] at hx
      have e5 : IntKind.i64.wrap ((x : Int) + (d.toNat : Int)) = ((x + d.toNat : Nat) : Int) := by
        rw [wrap_id (by omega) (by omega)]; omega
      have hq : ¬ (((p + i) % 2 : Nat) : Int) = 0 := by omega
      simp only [go_sem, ↓reduceIte, reduceCtorEq, upd_ne, back_new (no_at), Nat.reduceAdd, Nat.reduceEqDiff, Nat.reduceMul, Nat.reduceSub, Nat.reduceLeDiff, Nat.reduceLT, Int.reduceToNat, Int.reduceLE, Int.reduceLT, Int.reduceEq, UInt8.reduceOfNat, hq, e5]
      exact ⟨k - 1, by omega, _, i + 1, rfl, by omega, by rw [show p + (i + 1) = p + i + 1 by omega]; omega⟩
  · rw [List.drop_eq_nil_of_le (by rw [turn_len]; omega)] at hx
    simp only [sumAt, Nat.add_zero] at hx
    simp only [go_sem, ↓reduceIte, reduceCtorEq, upd_ne, back_new (no_at), Nat.reduceAdd, Nat.reduceEqDiff, Nat.reduceMul, Nat.reduceSub, Nat.reduceLeDiff, Nat.reduceLT, Int.reduceToNat, Int.reduceLE, Int.reduceLT, Int.reduceEq, UInt8.reduceOfNat, Nxt, exIf, hx]
theorem ev_even (s : List UInt8) (h : s.length % 2 = 0) : S.ev (n + 1) id_sum_even [.str s] none = some (.str s, none) := by
  rw [Sys.step hS.h_sum_even, F_sum_even_eq]
  unfold F_sum_even
  have e1 : Int.tmod (s.length : Int) 2 = ((s.length % 2 : Nat) : Int) := rfl
  have e2 : ¬ ((s.length % 2 : Nat) : Int) = 1 := by omega
  (try simp only [guard_merge, or_merge, and_merge, or_pick, and_pick, guard_or, guard_and]); simp only [to_ob]
  simp only [go_sem, ↓reduceIte, reduceCtorEq, upd_ne, back_new (no_at), Nat.reduceAdd, Nat.reduceEqDiff, Nat.reduceMul, Nat.reduceSub, Nat.reduceLeDiff, Nat.reduceLT, Int.reduceToNat, Int.reduceLE, Int.reduceLT, Int.reduceEq, UInt8.reduceOfNat, e1, e2]
theorem ev_Update (x : Nat) (o w : List UInt8) (hx : x ≤ 65535) (ho : o.length % 2 = 0) (h1 : o.length ≤ 1000000) (h2 : w.length ≤ 1000000) :
    S.ev (n + 2) id_sum_Update [.int .i64 (x : Int), .str o, .str w] none = some (.int .i64 (65535 - (ones (ones (65535 - x + sumAt 0 (turn 255 o)) + sumAt 0 w) : Nat)), none) := by
  rw [Sys.step hS.h_sum_Update, F_sum_Update_eq]
  unfold F_sum_Update
  have l1 := sumAt_le (turn 255 o) 0
  rw [turn_len] at l1
  have l2 := sumAt_le w 0
  have l3 := ones_le (65535 - x + sumAt 0 (turn 255 o))
  have l4 := ones_le (ones (65535 - x + sumAt 0 (turn 255 o)) + sumAt 0 w)
  have a1 := ev_even hS n o ho
  have a2 : S.ev (n + 1) id_sum_add [.int .i64 ((65535 - x : Nat) : Int), .int .i64 0, .str o, .int .u8 255] none = some (.int .i64 (65535 - x + sumAt 0 (turn 255 o) : Nat), none) := ev_addT hS n 255 (65535 - x) 0 o (by omega) (by omega)
  have a3 := ev_fold hS n (65535 - x + sumAt 0 (turn 255 o)) (by omega)
  have a4 : S.ev (n + 1) id_sum_add [.int .i64 (ones (65535 - x + sumAt 0 (turn 255 o)) : Nat), .int .i64 0, .str w, .int .u8 0] none = some (.int .i64 (ones (65535 - x + sumAt 0 (turn 255 o)) + sumAt 0 w : Nat), none) := ev_add hS n _ 0 w (by omega) (by omega)
  have a5 := ev_fold hS n (ones (65535 - x + sumAt 0 (turn 255 o)) + sumAt 0 w) (by omega)
  have e1 : bitsOf .and .i64 (x : Int) 65535 = (x : Int) := by
    rw [show (65535 : Int) = ((2 ^ 16 - 1 : Nat) : Int) from rfl, bits_mask 16 (by omega) (by simp [IntKind.max, IntKind.signed, IntKind.bits]; omega) (by decide)]
    show (x : Int) % ((65536 : Nat) : Int) = x
    omega
  have e2 : IntKind.i64.wrap (65535 - (x : Int)) = ((65535 - x : Nat) : Int) := by rw [wrap_id (by omega) (by omega)]; omega
  have e3 : IntKind.i64.wrap (65535 - ((ones (ones (65535 - x + sumAt 0 (turn 255 o)) + sumAt 0 w) : Nat) : Int)) = 65535 - ((ones (ones (65535 - x + sumAt 0 (turn 255 o)) + sumAt 0 w) : Nat) : Int) := wrap_id (by omega) (by omega)
  (try simp only [guard_merge, or_merge, and_merge, or_pick, and_pick, guard_or, guard_and]); simp only [to_ob]
  simp only [go_sem, ↓reduceIte, reduceCtorEq, upd_ne, back_new (no_at), Nat.reduceAdd, Nat.reduceEqDiff, Nat.reduceMul, Nat.reduceSub, Nat.reduceLeDiff, Nat.reduceLT, Int.reduceToNat, Int.reduceLE, Int.reduceLT, Int.reduceEq, UInt8.reduceOfNat, a1, a2, a3, a4, a5, e1, e2, e3]
end
end Go.Ev

/- Layer 6: written anew. -/
namespace Go.Ev
set_option linter.unusedSimpArgs false
set_option linter.unusedVariables false
set_option maxRecDepth 4000
set_option maxHeartbeats 2000000
/-- The sum that is kept up, in one of its two writings. -/
theorem kept6 {S1 S2 R X m : Nat} (h : X + S1 = 65535 * m) {k w : Nat} (hw : w = 65535 - ones (S2 + R)) (hk : k = 65535 - ones (ones (65535 - (65535 - ones (S1 + R)) + X) + S2)) :
    k = w ∨ (k + w = 65535 ∧ (k = 0 ∨ w = 0)) := by
  have h1 := ones_le (S1 + R)
  have h2 := ones_le (S2 + R)
  rw [show 65535 - (65535 - ones (S1 + R)) = ones (S1 + R) by omega, ones_add, Nat.add_assoc, ones_add, show S1 + R + (X + S2) = 65535 * m + (S2 + R) by omega] at hk
  generalize S2 + R = T at *
  unfold ones at hk hw
  split at hk <;> split at hw <;> omega
theorem sumAt_par {p : Nat} (h : p % 2 = 0) (s : List UInt8) : sumAt p s = sumAt 0 s := by
  obtain ⟨k, rfl⟩ : ∃ k, p = 2 * k := ⟨p / 2, by omega⟩
  clear h
  induction k with
  | zero => rfl
  | succ k ih => rw [show 2 * (k + 1) = 2 * k + 2 by omega, sumAt_two, ih]
section
variable {S : Sys} (hS : Has S) (n : Nat)
include hS
theorem ev_TcpMoves {vs : List LV} (h : fitVL [.agg [.int .i64, .int .i64, .int .i64, .str], .str, .str] vs) : S.ev (n + 5) id_interpreterlaw06_TcpMoves vs none = some (.bool true, none) := by
  obtain ⟨a, r, e, g1, q1⟩ := fit_cons h; clear h; subst e; obtain ⟨fr, to, fl, raw, rfl, hd⟩ := fit_dg g1; clear g1
  obtain ⟨a, r, e, g2, q2⟩ := fit_cons q1; clear q1; subst e; obtain ⟨ps0, rfl, hp⟩ := fit_str g2; clear g2
  obtain ⟨a, r, e, g2, q3⟩ := fit_cons q2; clear q2; subst e; obtain ⟨pt0, rfl, hp2⟩ := fit_str g2; clear g2
  obtain rfl := fit_nil q3
  rw [Sys.step hS.h_interpreterlaw06_TcpMoves, F_interpreterlaw06_TcpMoves_eq]
  unfold F_interpreterlaw06_TcpMoves
  have ha := ev_awake6 hS n
  (try simp only [guard_merge, or_merge, and_merge, or_pick, and_pick, guard_or, guard_and]); simp only [to_ob]
  by_cases c : (3000 < (raw.length : Int) ∨ 100 < (ps0.length : Int)) ∨ 100 < (pt0.length : Int)
  · simp only [go_sem, ↓reduceIte, reduceCtorEq, upd_ne, back_new (no_at), Nat.reduceAdd, Nat.reduceEqDiff, Nat.reduceMul, Nat.reduceSub, Nat.reduceLeDiff, Nat.reduceLT, Int.reduceToNat, Int.reduceLE, Int.reduceLT, Int.reduceEq, UInt8.reduceOfNat, ha, c]
  · have e1 : IntKind.i64.wrap (IntKind.i64.wrap (Int.tdiv (ps0.length : Int) 2) * 2) = ((ps0.length / 2 * 2 : Nat) : Int) := by
      rw [show Int.tdiv (ps0.length : Int) 2 = ((ps0.length / 2 : Nat) : Int) from rfl, wrap_id (n := ((ps0.length / 2 : Nat) : Int)) (by omega) (by omega), wrap_id (by omega) (by omega)]; omega
    have e2 : ps0.length / 2 * 2 ≤ ps0.length := by omega
    have e3 : IntKind.i64.wrap (IntKind.i64.wrap (Int.tdiv (pt0.length : Int) 2) * 2) = ((pt0.length / 2 * 2 : Nat) : Int) := by
      rw [show Int.tdiv (pt0.length : Int) 2 = ((pt0.length / 2 : Nat) : Int) from rfl, wrap_id (n := ((pt0.length / 2 : Nat) : Int)) (by omega) (by omega), wrap_id (by omega) (by omega)]; omega
    have e4 : pt0.length / 2 * 2 ≤ pt0.length := by omega
    generalize hps : ps0.take (ps0.length / 2 * 2) = ps
    have hpl : ps.length = ps0.length / 2 * 2 := by rw [← hps, List.length_take]; omega
    generalize hpt : pt0.take (pt0.length / 2 * 2) = pt
    have hptl : pt.length = pt0.length / 2 * 2 := by rw [← hpt, List.length_take]; omega
    have h1 := ev_bytes6 hS (n + 1) fr to fl raw ps hd.hfr hd.hto (by omega) (by omega)
    by_cases ck : tcpKB fr to raw = 0
    · have hk := ck
      unfold tcpKB at hk
      split at hk
      case isFalse => contradiction
      rename_i hK
      split at hk
      case isFalse => simp at hk
      rename_i hr
      obtain ⟨⟨r1, r2⟩, r3, r4⟩ := hr
      obtain ⟨x, rfl⟩ := Int.eq_ofNat_of_zero_le r1
      obtain ⟨y, rfl⟩ := Int.eq_ofNat_of_zero_le r3
      have hl := tcpK_len hK
      have hx : x < 65536 := by omega
      have hy : y < 65536 := by omega
      simp only [tcpB, ck, if_true, udpE] at h1
      have hlen := tcpW_len (fr := x) (to := y) (ps := ps) hl
      have h2 := ev_parse6 hS (n + 2) (tcpW x y raw ps) (by rw [hlen]; omega)
      rw [tcpLV_W hK hx hy, tcpK_W hK] at h2
      simp only [udpE, if_true] at h2
      have h3 := ev_bytes6 hS (n + 1) x y (((raw.getD 13 0).toNat % 64 : Nat) : Int) (tcpW x y raw ps) pt ⟨by omega, by omega⟩ ⟨by omega, by omega⟩ (by rw [hlen]; omega) (by omega)
      have k3 : tcpKB x y (tcpW x y raw ps) = 0 := by unfold tcpKB; rw [if_pos (tcpK_W hK), if_pos ⟨⟨by omega, by omega⟩, by omega, by omega⟩]
      simp only [tcpB, k3, if_true, udpE] at h3
      have hcg : tcpW x y (tcpW x y raw ps) pt = tcpW x y raw pt := tcpW_cong (tcpW_mid hl) (tcpW_end hl)
      rw [hcg] at h3
      have hlen2 := tcpW_len (fr := x) (to := y) (ps := pt) hl
      have t1 : (tcpW x y raw ps).take 16 = tcpA x y raw := tcpW_take hl
      have t2 : (tcpW x y raw pt).take 16 = tcpA x y raw := tcpW_take hl
      have u1 := tcpW_end (fr := x) (to := y) (ps := ps) hl
      have u2 := tcpW_end (fr := x) (to := y) (ps := pt) hl
      obtain ⟨_, _, _, _, _, _, p16, p17⟩ := tcpW_at (fr := x) (to := y) (ps := ps) hl
      obtain ⟨_, _, _, _, _, _, q16, q17⟩ := tcpW_at (fr := x) (to := y) (ps := pt) hl
      have gp16 := get_def (s := tcpW x y raw ps) (i := 16) (by omega)
      have gp17 := get_def (s := tcpW x y raw ps) (i := 17) (by omega)
      have gq16 := get_def (s := tcpW x y raw pt) (i := 16) (by omega)
      have gq17 := get_def (s := tcpW x y raw pt) (i := 17) (by omega)
      rw [p16] at gp16
      rw [p17] at gp17
      rw [q16] at gq16
      rw [q17] at gq17
      have hX1 : (tcpX x y raw ps).toNat = 65535 - ones (sumAt 0 ps + sumAt 0 (tcpA x y raw ++ ([0, 0] ++ raw.drop 18))) := by
        have h9 : sumAt 0 (ps ++ (tcpA x y raw ++ ([0, 0] ++ raw.drop 18))) = sumAt 0 ps + sumAt 0 (tcpA x y raw ++ ([0, 0] ++ raw.drop 18)) := by
          rw [sumAt_append]; congr 1
          exact sumAt_par (by omega) _
        have := ones_le (sumAt 0 (ps ++ (tcpA x y raw ++ ([0, 0] ++ raw.drop 18))))
        unfold tcpX sumS
        rw [h9] at this ⊢
        omega
      have hX2 : (tcpX x y raw pt).toNat = 65535 - ones (sumAt 0 pt + sumAt 0 (tcpA x y raw ++ ([0, 0] ++ raw.drop 18))) := by
        have h9 : sumAt 0 (pt ++ (tcpA x y raw ++ ([0, 0] ++ raw.drop 18))) = sumAt 0 pt + sumAt 0 (tcpA x y raw ++ ([0, 0] ++ raw.drop 18)) := by
          rw [sumAt_append]; congr 1
          exact sumAt_par (by omega) _
        have := ones_le (sumAt 0 (pt ++ (tcpA x y raw ++ ([0, 0] ++ raw.drop 18))))
        unfold tcpX sumS
        rw [h9] at this ⊢
        omega
      have x1 : (tcpX x y raw ps).toNat ≤ 65535 := by omega
      have x2 : (tcpX x y raw pt).toNat ≤ 65535 := by omega
      have w1 := w16_beB (x := (tcpX x y raw ps).toNat) (by omega)
      have w2 := w16_beB (x := (tcpX x y raw pt).toNat) (by omega)
      have hup := ev_Update hS (n + 2) (tcpX x y raw ps).toNat ps pt x1 (by omega) (by omega) (by omega)
      have hts := turn_sum ps (by omega)
      generalize hkk : 65535 - ones (ones (65535 - (tcpX x y raw ps).toNat + sumAt 0 (turn 255 ps)) + sumAt 0 pt) = kk at *
      have hup : S.ev (n + 4) id_sum_Update [.int .i64 ((tcpX x y raw ps).toNat : Int), .str ps, .str pt] none = some (.int .i64 (kk : Nat), none) := by
        rw [hup]
        have := ones_le (ones (65535 - (tcpX x y raw ps).toNat + sumAt 0 (turn 255 ps)) + sumAt 0 pt)
        congr 4
        omega
      have hkept := kept6 (S1 := sumAt 0 ps) (S2 := sumAt 0 pt) (R := sumAt 0 (tcpA x y raw ++ ([0, 0] ++ raw.drop 18))) hts (k := kk) hX2 (by rw [← hkk, hX1])
      have hkl : kk ≤ 65535 := by omega
      clear hX1 hX2 hkk hts
      generalize (tcpX x y raw ps).toNat = z1 at *
      generalize (tcpX x y raw pt).toNat = z2 at *
      unfold w16 at w1 w2
      generalize UInt8.ofNat (z1 / 256) = b1 at *
      generalize UInt8.ofNat z1 = b2 at *
      generalize UInt8.ofNat (z2 / 256) = b3 at *
      generalize UInt8.ofNat z2 = b4 at *
      have hb1 := b1.toNat_lt
      have hb2 := b2.toNat_lt
      have hb3 := b3.toNat_lt
      have hb4 := b4.toNat_lt
      have i1 : IntKind.i64.wrap (b1.toNat : Int) = (b1.toNat : Int) := wrap_id (by omega) (by omega)
      have i2 : IntKind.i64.wrap (b2.toNat : Int) = (b2.toNat : Int) := wrap_id (by omega) (by omega)
      have i3 : IntKind.i64.wrap (b3.toNat : Int) = (b3.toNat : Int) := wrap_id (by omega) (by omega)
      have i4 : IntKind.i64.wrap (b4.toNat : Int) = (b4.toNat : Int) := wrap_id (by omega) (by omega)
      have i5 : IntKind.i64.wrap ((b1.toNat : Int) * 256) = ((b1.toNat * 256 : Nat) : Int) := by rw [wrap_id (by omega) (by omega)]; omega
      have i6 : IntKind.i64.wrap (((b1.toNat * 256 : Nat) : Int) + (b2.toNat : Int)) = (z1 : Int) := by rw [wrap_id (by omega) (by omega)]; omega
      have i7 : IntKind.i64.wrap ((b3.toNat : Int) * 256) = ((b3.toNat * 256 : Nat) : Int) := by rw [wrap_id (by omega) (by omega)]; omega
      have i8 : IntKind.i64.wrap (((b3.toNat * 256 : Nat) : Int) + (b4.toNat : Int)) = (z2 : Int) := by rw [wrap_id (by omega) (by omega)]; omega
      have i9 : IntKind.i64.wrap ((kk : Int) + (z2 : Int)) = ((kk + z2 : Nat) : Int) := by rw [wrap_id (by omega) (by omega)]; omega
      generalize tcpW x y raw ps = W1 at *
      generalize tcpW x y raw pt = W2 at *
      have m0 : ¬ (raw.length : Int) < 20 := by omega
      have m1 : 16 ≤ raw.length := by omega
      have m2 : 18 ≤ raw.length := by omega
      by_cases c1 : kk = z2
      · have c1' : (kk : Int) = (z2 : Int) := by omega
        simp only [go_sem, ↓reduceIte, reduceCtorEq, upd_ne, back_new (no_at), Nat.reduceAdd, Nat.reduceEqDiff, Nat.reduceMul, Nat.reduceSub, Nat.reduceLeDiff, Nat.reduceLT, Int.reduceToNat, Int.reduceLE, Int.reduceLT, Int.reduceEq, UInt8.reduceOfNat, Nat.sub_zero, ha, c, e1, e2, e3, e4, hps, hpt, h1, h2, h3, hlen, hlen2, t1, t2, u1, u2, gp16, gp17, gq16, gq17, byteLV, i1, i2, i3, i4, i5, i6, i7, i8, i9, hup, m0, m1, m2, c1', c1]
      · have c1' : ¬ (kk : Int) = (z2 : Int) := by omega
        have c2 : ((kk + z2 : Nat) : Int) = 65535 := by omega
        by_cases c3 : kk = 0
        · have c3' : (kk : Int) = 0 := by omega
          have j1 : ¬ (0 : Int) = (z2 : Int) := by omega
          have j2 : IntKind.i64.wrap (0 + (z2 : Int)) = 65535 := by rw [wrap_id (by omega) (by omega)]; omega
          simp only [go_sem, ↓reduceIte, reduceCtorEq, upd_ne, back_new (no_at), Nat.reduceAdd, Nat.reduceEqDiff, Nat.reduceMul, Nat.reduceSub, Nat.reduceLeDiff, Nat.reduceLT, Int.reduceToNat, Int.reduceLE, Int.reduceLT, Int.reduceEq, UInt8.reduceOfNat, Nat.sub_zero, ha, c, e1, e2, e3, e4, hps, hpt, h1, h2, h3, hlen, hlen2, t1, t2, u1, u2, gp16, gp17, gq16, gq17, byteLV, i1, i2, i3, i4, i5, i6, i7, i8, hup, m0, m1, m2, c3', j1, j2]
        · have c3' : ¬ (kk : Int) = 0 := by omega
          have c4' : (z2 : Int) = 0 := by omega
          have j2 : IntKind.i64.wrap ((kk : Int) + 0) = 65535 := by rw [wrap_id (by omega) (by omega)]; omega
          simp only [go_sem, ↓reduceIte, reduceCtorEq, upd_ne, back_new (no_at), Nat.reduceAdd, Nat.reduceEqDiff, Nat.reduceMul, Nat.reduceSub, Nat.reduceLeDiff, Nat.reduceLT, Int.reduceToNat, Int.reduceLE, Int.reduceLT, Int.reduceEq, UInt8.reduceOfNat, Nat.sub_zero, ha, c, e1, e2, e3, e4, hps, hpt, h1, h2, h3, hlen, hlen2, t1, t2, u1, u2, gp16, gp17, gq16, gq17, byteLV, i1, i2, i3, i4, i5, i6, i7, i8, hup, m0, m1, m2, c3', c4', j2]
    · have h1' : tcpB fr to raw ps = [] := by unfold tcpB; rw [if_neg ck]
      simp only [h1', udpE, ck, if_false] at h1
      simp only [go_sem, ↓reduceIte, reduceCtorEq, upd_ne, back_new (no_at), Nat.reduceAdd, Nat.reduceEqDiff, Nat.reduceMul, Nat.reduceSub, Nat.reduceLeDiff, Nat.reduceLT, Int.reduceToNat, Int.reduceLE, Int.reduceLT, Int.reduceEq, UInt8.reduceOfNat, Nat.sub_zero, ha, c, e1, e2, e3, e4, hps, hpt, h1]
end
end Go.Ev
